/- The reference's lists of fields and of ranges. -/
import Derived.Test.YticnihfjnjliiaaKR3
import Derived.LoopN
import Derived.RegionTactic
namespace Go.Proofs.Yticnihfjnjliiaa.R1
open Go.RowKit Go.Proofs.Yticnihfjnjliiaa.GDescGrows Go.Proofs.YticnihfjnjliiaaW.PrintWords Go.Proofs.YticnihfjnjliiaaW.PrintLast Go.Proofs.YticnihfjnjliiaaW.PrintMore Go.Proofs.Yticnihfjnjliiaa.Vb Go.Proofs.Yticnihfjnjliiaa.Wr Go.Proofs.Yticnihfjnjliiaa.Wp Go.Proofs.Yticnihfjnjliiaa.Rk Go.Proofs.Yticnihfjnjliiaa.Sp
set_option linter.unusedVariables false
set_option linter.unusedSimpArgs false
set_option maxHeartbeats 8000000 in
set_option maxRecDepth 100000 in
theorem fields_c (l : List S69) (hg : ∀ y ∈ l, good69 y) (hb : (l.map bk69).sum ≤ 4294967296) (num : Int) (hn : 1 ≤ num ∧ num ≤ 536870911) (A0 : Option Addr) (c0 : Nat) (w : World) (hC : Kd.C k69 w A0 l.length l) :
 Calls Try.prog 54 #[.int .i64 num, .slice A0 l.length c0] w fun e w' => Ret_ (l.flatMap fun y => fB num (bField y)) w e w' := by
 have hlen := flat_len bk69 num bField hn l (fun y hy => len69_ y (by have := sum_le bk69 l y hy; omega)) hb
 have hll := len_sum bk69 (fun y => by unfold bk69; omega) l
 have HL : Aside0 ((l.flatMap fun y => fB num (bField y)).length ≤ 1099511627776) := ⟨by omega⟩
 have HS := mk0 hb
 have HN := mk0 hn
 have HC0 := mk0 hC
 have HB0 := mk0 (Below.refl w.heap.size w)
 replace hll : l.length < 9223372036854775807 := by omega
 clear hlen hb hn
 go_enter Try.func54, Try.ntmps54
 go_wp2
 go_loopg [5, 10] l.length (fun kq v5 v10 w' => ∃ i : Nat, v10 = .int .i64 (i : Int) ∧ Aside0 (i + kq = l.length) ∧ Aside0 (Kd.R (Kd.int .u8) 5 w' w.heap.size (fun _ => True) v5 ((l.take i).flatMap fun y => fB num (bField y))) ∧ Aside0 (Below w.heap.size w w'))
 case atStart => exact ⟨0, rfl, ⟨by omega⟩, ⟨Kd.R_nil _ _ _ _ _⟩, ⟨HB0.out⟩⟩
 case round =>
  obtain ⟨i, rfl, HI, HO, HB⟩ := hrel
  obtain ⟨acc, hacc⟩ : ∃ z, ((l.take i).flatMap fun y => fB num (bField y)) = z := ⟨_, rfl⟩
  rw [hacc] at HO
  obtain ⟨Av, cv, ev⟩ := Kd.R_slice HO.out
  subst ev
  by_cases hlt : i < l.length
  · have hwp := num_step i l.length hlt hll
    have d0 := dec_lt hlt
    have p0 : (0 ≤ (i : Int)) = True := eq_true (Int.natCast_nonneg i)
    have q0 : ((i : Int) < (l.length : Int)) = True := eq_true (Int.ofNat_lt.2 hlt)
    obtain ⟨x, hmem, hxe, htake0, hlen0⟩ := flat_step (fun y => fB num (bField y)) l z69 i hlt
    rw [hacc] at htake0 hlen0
    have htake := mk0 htake0
    have hlen : Aside0 (acc.length + (fB num (bField x)).length < 140737488355328) := ⟨by have := HL.out; omega⟩
    clear htake0 hlen0 hacc
    have hCw := Kd.C_below HC0.out HB.out
    obtain ⟨ad, cc, ea, _, hKx, hcc⟩ := Kd.C_get hCw z69 (i : Int) (Int.natCast_nonneg _) (Int.ofNat_lt.2 hlt)
    rw [Int.toNat_natCast] at hKx hcc
    rw [hxe] at hKx
    obtain ⟨A11, c11, A12, c12, ecc, l11, g11, l12, g12⟩ := k69_open hKx
    subst ecc
    have ex0 : wr.cell? (ad.add (i * 13)) = some (.string x.f0) := by have := hcc 0 _ rfl; rwa [show i * k69.sz + 0 = i * 13 from rfl] at this
    have ex1 : wr.cell? ⟨(ad.add (i * 13)).block, (ad.add (i * 13)).off + 1, none⟩ = some (.int .i64 x.f1) := by have := hcc 1 _ rfl; rw [show i * k69.sz + 1 = i * 13 + 1 from rfl] at this; rw [← add_field _ _ 1 (by omega)]; exact this
    have ex2 : wr.cell? ⟨(ad.add (i * 13)).block, (ad.add (i * 13)).off + 2, none⟩ = some (.int .i64 x.f2) := by have := hcc 2 _ rfl; rw [show i * k69.sz + 2 = i * 13 + 2 from rfl] at this; rw [← add_field _ _ 2 (by omega)]; exact this
    have ex3 : wr.cell? ⟨(ad.add (i * 13)).block, (ad.add (i * 13)).off + 3, none⟩ = some (.int .i64 x.f3) := by have := hcc 3 _ rfl; rw [show i * k69.sz + 3 = i * 13 + 3 from rfl] at this; rw [← add_field _ _ 3 (by omega)]; exact this
    have ex4 : wr.cell? ⟨(ad.add (i * 13)).block, (ad.add (i * 13)).off + 4, none⟩ = some (.string x.f4) := by have := hcc 4 _ rfl; rw [show i * k69.sz + 4 = i * 13 + 4 from rfl] at this; rw [← add_field _ _ 4 (by omega)]; exact this
    have ex5 : wr.cell? ⟨(ad.add (i * 13)).block, (ad.add (i * 13)).off + 5, none⟩ = some (.string x.f5) := by have := hcc 5 _ rfl; rw [show i * k69.sz + 5 = i * 13 + 5 from rfl] at this; rw [← add_field _ _ 5 (by omega)]; exact this
    have ex6 : wr.cell? ⟨(ad.add (i * 13)).block, (ad.add (i * 13)).off + 6, none⟩ = some (.string x.f6) := by have := hcc 6 _ rfl; rw [show i * k69.sz + 6 = i * 13 + 6 from rfl] at this; rw [← add_field _ _ 6 (by omega)]; exact this
    have ex7 : wr.cell? ⟨(ad.add (i * 13)).block, (ad.add (i * 13)).off + 7, none⟩ = some (.bool x.f7) := by have := hcc 7 _ rfl; rw [show i * k69.sz + 7 = i * 13 + 7 from rfl] at this; rw [← add_field _ _ 7 (by omega)]; exact this
    have ex8 : wr.cell? ⟨(ad.add (i * 13)).block, (ad.add (i * 13)).off + 8, none⟩ = some (.int .i64 x.f8) := by have := hcc 8 _ rfl; rw [show i * k69.sz + 8 = i * 13 + 8 from rfl] at this; rw [← add_field _ _ 8 (by omega)]; exact this
    have ex9 : wr.cell? ⟨(ad.add (i * 13)).block, (ad.add (i * 13)).off + 9, none⟩ = some (.string x.f9) := by have := hcc 9 _ rfl; rw [show i * k69.sz + 9 = i * 13 + 9 from rfl] at this; rw [← add_field _ _ 9 (by omega)]; exact this
    have ex10 : wr.cell? ⟨(ad.add (i * 13)).block, (ad.add (i * 13)).off + 10, none⟩ = some (.bool x.f10) := by have := hcc 10 _ rfl; rw [show i * k69.sz + 10 = i * 13 + 10 from rfl] at this; rw [← add_field _ _ 10 (by omega)]; exact this
    have ex11 : wr.cell? ⟨(ad.add (i * 13)).block, (ad.add (i * 13)).off + 11, none⟩ = some (.slice A11 x.f11.length c11) := by have := hcc 11 _ rfl; rw [show i * k69.sz + 11 = i * 13 + 11 from rfl] at this; rw [← add_field _ _ 11 (by omega)]; exact this
    have ex12 : wr.cell? ⟨(ad.add (i * 13)).block, (ad.add (i * 13)).off + 12, none⟩ = some (.slice A12 x.f12.length c12) := by have := hcc 12 _ rfl; rw [show i * k69.sz + 12 = i * 13 + 12 from rfl] at this; rw [← add_field _ _ 12 (by omega)]; exact this
    subst ea
    clear hcc hKx hxe
    have hbx : bk69 x ≤ 4294967296 := by have := sum_le bk69 l x hmem; have := HS.out; omega
    have HF := fun (W : World) (hW : Below wr.heap.size wr W) => field_c x (hg x hmem) hbx W _ (k69_mk W x l11 (Kd.C_below g11 hW) l12 (Kd.C_below g12 hW))
    have HZ : Aside0 ((bField x).length ≤ 1099511627776) := ⟨by have := len69_ x hbx; omega⟩
    clear hbx
    cases gk with
    | zero => exact absurd HI.out (fun h => Nat.ne_of_lt hlt h)
    | succ k1 =>
     go_wp2_with (first | ((with_reducible refine gate_dst (N := 7) rfl ?_); (try (refine gate_guard (by rfl) ?_; dsimp only)); refine box_event ?hg (N := 7) ?hd (cs := #[.string (⟨#[]⟩ : ByteArray), .int .i64 0, .int .i64 0, .int .i64 0, .string (⟨#[]⟩ : ByteArray), .string (⟨#[]⟩ : ByteArray), .string (⟨#[]⟩ : ByteArray), .bool false, .int .i64 0, .string (⟨#[]⟩ : ByteArray), .bool false, .slice none 0 0, .slice none 0 0]) (t := 69) ?hr ?_; (case hd => rfl); (case hg => rfl); (case hr => first | (go_simp; done) | (go_simp; rfl)); intro gb hg9 w9 hbox hb9; have HB9 := mk0 hb9; have BX9 := mk0 hbox; have HG9 := mk0 hg9; clear hb9 hbox hg9) | ((with_reducible refine gate_store (t := 69) (p := 7) rfl ?_); refine Go.Proofs.Yticnihfjnjliiaa.Sw.store_whole rfl rfl rfl gb 69 _ _ rfl rfl BX9.out (by kernel_rfl) rfl rfl ?_; intro wq hS_ hbS_ hkS_; have HBr := mk0 (hbS_ wr.heap.size wr (Nat.le_of_eq HG9.out.symm) HB9.out); have BK := mk0 hS_; clear hS_ hbS_ hkS_ BX9 HB9 HG9; have s0_ : _ = some ((.string x.f0) : Value) := (blk_cell BK.out 0).trans rfl; have s1_ : _ = some ((.int .i64 x.f1) : Value) := (blk_cell BK.out 1).trans rfl; have s2_ : _ = some ((.int .i64 x.f2) : Value) := (blk_cell BK.out 2).trans rfl; have s3_ : _ = some ((.int .i64 x.f3) : Value) := (blk_cell BK.out 3).trans rfl; have s4_ : _ = some ((.string x.f4) : Value) := (blk_cell BK.out 4).trans rfl; have s5_ : _ = some ((.string x.f5) : Value) := (blk_cell BK.out 5).trans rfl; have s6_ : _ = some ((.string x.f6) : Value) := (blk_cell BK.out 6).trans rfl; have s7_ : _ = some ((.bool x.f7) : Value) := (blk_cell BK.out 7).trans rfl; have s8_ : _ = some ((.int .i64 x.f8) : Value) := (blk_cell BK.out 8).trans rfl; have s9_ : _ = some ((.string x.f9) : Value) := (blk_cell BK.out 9).trans rfl; have s10_ : _ = some ((.bool x.f10) : Value) := (blk_cell BK.out 10).trans rfl; have s11_ : _ = some ((.slice A11 x.f11.length c11) : Value) := (blk_cell BK.out 11).trans rfl; have s12_ : _ = some ((.slice A12 x.f12.length c12) : Value) := (blk_cell BK.out 12).trans rfl) | (go_at_call 74; (with_reducible refine (HF _ HBr.out).mono ?_); rintro e w1 ⟨v, rfl, h1, h2⟩; obtain ⟨Rf, rf, ex_⟩ := Kd.R_slice h1; subst ex_; have HCf := mk0 (Kd.R_reads' h1).2.2; have HLf := mk0 (Kd.R_reads' h1).2.1; have HBf := mk0 (below_then HBr.out HBr.out.size h2); clear h1 h2) | (go_at_call 71; (with_reducible refine (part_c num (bField x) Rf rf _ HN.out HZ.out HCf.out HLf.out).mono ?_); rintro e w1 ⟨v, rfl, h1, h2⟩; obtain ⟨R_, r_, ex_⟩ := Kd.R_slice h1; subst ex_; have HCp := mk0 (Kd.R_reads' h1).2.2; have hbx := below_then HBf.out HBf.out.size h2; have HBc := mk0 (below_then HB.out HB.out.size hbx); have HOc := mk0 (Kd.R_below HO.out hbx); clear h1 h2 hbx) | ((with_reducible refine gate_builtin (b := .append) (xs := #[.tmp 14, .tmp 18]) rfl ?_); (try (refine gate_guard (by rfl) ?_; dsimp only)); at_builtin; refine Kd.R_append_rows (Kd.int .u8) (w0 := w) w.heap.size rfl (.tmp 14) (.tmp 18) 28 5 (.int .u8 0) 1 rfl Try.underlying28 GDescGrows.info5 rfl (by decide) (by omega) (.slice Av acc.length cv) acc (fB num (bField x)) _ _ _ (fun _ => True) (fun _ => False) rfl rfl ?aO ?aR (fun _ _ h => h) (fun _ h => h.elim) ?aF ?aB ?aS ?aL ?_; (case aR => exact HCp.out); (case aB => exact HBc.out); (case aF => exact fun _ _ => trivial); (case aO => exact HOc.out); (case aS => exact HBc.out.size); (case aL => have h1 := hlen.out; omega); intro v1 w2 ho2 hb2 hg2 hat2; have HOn := mk0 ho2; have HBn := mk0 hb2; clear ho2 hb2 hg2 hat2))
     go_roundg k1
     case measure => exact Nat.lt_succ_self k1
     case rel => exact ⟨i + 1, (by first | rfl | (rw [hwp]) | (simp [hwp]; done)), ⟨(Nat.add_right_comm i 1 k1).trans HI.out⟩, ⟨by rw [htake.out]; exact HOn.out⟩, ⟨HBn.out⟩⟩
  · have d0 := dec_ge hlt
    rw [List.take_of_length_le (Nat.le_of_not_lt hlt)] at hacc
    have HE := mk0 hacc
    clear hacc
    go_wp2
    go_ret
    exact ⟨_, rfl, by rw [HE.out]; exact HO.out, HB.out⟩
def ranges_t.T5 : Bool × List (List Nat × List Nat) := (true, [([], []), ([], []), ([], []), ([2], [2]), ([3], [3]), ([], []), ([5], [5]), ([6], [6]), ([7], [7]), ([8], [8]), ([9, 4], [9]), ([4, 10], [4, 10]), ([11, 10], [11]), ([1, 12, 12], [1, 12]), ([0, 13, 13], [0, 13]), ([14, 14, 0, 1, 2, 3, 4, 5, 6, 7, 8, 9, 10, 11, 12, 13, 14], [0, 14])])
def ranges_t.B5 : List Nat := [0, 0, 0, 4, 12, 0, 32, 96, 224, 480, 1020, 2044, 4092, 8190, 16383, 32767]
theorem ranges_t.tab5 : rtab .any (opsOf Try.f72 5) = ranges_t.T5 := by kernel_rfl
theorem ranges_t.bits5 : waitsOk ranges_t.T5.2 ranges_t.B5 = true := by kernel_rfl
set_option maxHeartbeats 8000000 in
set_option maxRecDepth 100000 in
theorem ranges_c (l : List S90) (hb : (l.map bk90).sum ≤ 4294967296) (num : Int) (hn : 1 ≤ num ∧ num ≤ 536870911) (A0 : Option Addr) (c0 : Nat) (w : World) (hC : Kd.C k90 w A0 l.length l) :
 Calls Try.prog 72 #[.int .i64 num, .slice A0 l.length c0] w fun e w' => Ret_ (l.flatMap fun y => fB num (bRange y)) w e w' := by
 have hlen := flat_len bk90 num bRange hn l (fun y hy => len90_ y) hb
 have hll := len_sum bk90 (fun y => by unfold bk90; omega) l
 have HL : Aside0 ((l.flatMap fun y => fB num (bRange y)).length ≤ 1099511627776) := ⟨by omega⟩
 have HS := mk0 hb
 have HN := mk0 hn
 have HC0 := mk0 hC
 have HB0 := mk0 (Below.refl w.heap.size w)
 replace hll : l.length < 9223372036854775807 := by omega
 clear hlen hb hn
 go_enter Try.func72, Try.ntmps72
 go_wp2
 go_loopg [5, 10] l.length (fun kq v5 v10 w' => ∃ i : Nat, v10 = .int .i64 (i : Int) ∧ Aside0 (i + kq = l.length) ∧ Aside0 (Kd.R (Kd.int .u8) 5 w' w.heap.size (fun _ => True) v5 ((l.take i).flatMap fun y => fB num (bRange y))) ∧ Aside0 (Below w.heap.size w w'))
 case atStart => exact ⟨0, rfl, ⟨by omega⟩, ⟨Kd.R_nil _ _ _ _ _⟩, ⟨HB0.out⟩⟩
 case round =>
  obtain ⟨i, rfl, HI, HO, HB⟩ := hrel
  obtain ⟨acc, hacc⟩ : ∃ z, ((l.take i).flatMap fun y => fB num (bRange y)) = z := ⟨_, rfl⟩
  rw [hacc] at HO
  obtain ⟨Av, cv, ev⟩ := Kd.R_slice HO.out
  subst ev
  by_cases hlt : i < l.length
  · have hwp := num_step i l.length hlt hll
    have d0 := dec_lt hlt
    have p0 : (0 ≤ (i : Int)) = True := eq_true (Int.natCast_nonneg i)
    have q0 : ((i : Int) < (l.length : Int)) = True := eq_true (Int.ofNat_lt.2 hlt)
    obtain ⟨x, hmem, hxe, htake0, hlen0⟩ := flat_step (fun y => fB num (bRange y)) l z90 i hlt
    rw [hacc] at htake0 hlen0
    have htake := mk0 htake0
    have hlen : Aside0 (acc.length + (fB num (bRange x)).length < 140737488355328) := ⟨by have := HL.out; omega⟩
    clear htake0 hlen0 hacc
    have hCw := Kd.C_below HC0.out HB.out
    obtain ⟨ad, cc, ea, _, hKx, hcc⟩ := Kd.C_get hCw z90 (i : Int) (Int.natCast_nonneg _) (Int.ofNat_lt.2 hlt)
    rw [Int.toNat_natCast] at hKx hcc
    rw [hxe] at hKx
    have ecc := k90_open hKx
    subst ecc
    have ex0 : wr.cell? (ad.add (i * 2)) = some (.int .i64 x.f0) := by have := hcc 0 _ rfl; rwa [show i * k90.sz + 0 = i * 2 from rfl] at this
    have ex1 : wr.cell? ⟨(ad.add (i * 2)).block, (ad.add (i * 2)).off + 1, none⟩ = some (.int .i64 x.f1) := by have := hcc 1 _ rfl; rw [show i * k90.sz + 1 = i * 2 + 1 from rfl] at this; rw [← add_field _ _ 1 (by omega)]; exact this
    subst ea
    clear hcc hKx hxe
    have HZ : Aside0 ((bRange x).length ≤ 1099511627776) := ⟨by have h1 := len90_ x; have h2 := sum_le bk90 l x hmem; have := HS.out; omega⟩
    cases gk with
    | zero => exact absurd HI.out (fun h => Nat.ne_of_lt hlt h)
    | succ k1 =>
     go_wp2_with (first | ((with_reducible refine gate_dst (N := 7) rfl ?_); (try (refine gate_guard (by rfl) ?_; dsimp only)); refine box_event ?hg (N := 7) ?hd (cs := #[.int .i64 0, .int .i64 0]) (t := 90) ?hr ?_; (case hd => rfl); (case hg => rfl); (case hr => first | (go_simp; done) | (go_simp; rfl)); intro gb hg9 w9 hbox hb9; have HB9 := mk0 hb9; have BX9 := mk0 hbox; have HG9 := mk0 hg9; clear hb9 hbox hg9) | ((with_reducible refine gate_store (t := 90) (p := 7) rfl ?_); refine Go.Proofs.Yticnihfjnjliiaa.Sw.store_whole rfl rfl rfl gb 90 _ _ rfl rfl BX9.out (by kernel_rfl) rfl rfl ?_; intro wq hS_ hbS_ hkS_; have HBr := mk0 (hbS_ wr.heap.size wr (Nat.le_of_eq HG9.out.symm) HB9.out); have BK := mk0 hS_; clear hS_ hbS_ hkS_ BX9 HB9 HG9; have s0_ : _ = some ((.int .i64 x.f0) : Value) := (blk_cell BK.out 0).trans rfl; have s1_ : _ = some ((.int .i64 x.f1) : Value) := (blk_cell BK.out 1).trans rfl))
     have HOc := mk0 (Kd.R_below HO.out HBr.out)
     have n0_ := mk0 (below_drew1 HBr.out)
     have n1_ := mk0 (blk_drew BK.out)
     have n2_ := mk0 (Kd.R_drew HOc.out)
     clear HBr BK HOc
     have HBr := n0_
     have BK := n1_
     have HOc := n2_
     clear n0_ n1_ n2_
     refine start_ (n := 16) (S := fun w' => w'.cell? ⟨gb, 0, none⟩ = some (.int .i64 x.f0) ∧ w'.cell? ⟨gb, 1, none⟩ = some (.int .i64 x.f1)) (ds := []) #[false, false, false, false, false, false, false, false, false, false, false, false, false, false, false, false] (by kernel_rfl) rfl rfl ⟨(blk_cell BK.out 0).trans rfl, (blk_cell BK.out 1).trans rfl⟩ (fun hHeld => ?_)
     refine with_tabW ranges_t.tab5 ranges_t.bits5 (fun HT_ HW_ => ?_)
     generalize wq.drew = wq at HBr BK HOc hHeld ⊢
     refine pure_ (i := 0) (N := some 14) (v := ?_) (a' := ?_) #[true, false, false, false, false, false, false, false, false, false, false, false, false, false, false, false] rfl rfl (any_of HT_.out (by kernel_rfl)) (fun _ _ _ h => h) (Or.inl ⟨by rfl, ?_⟩) ?_ ?_
     rotate_left
     · intro w'
       go_simp
       with_reducible rfl
     rotate_left
     · simp only [Act.put, List.setIfInBounds_toArray, List.set_cons_zero, List.set_cons_succ, i64_w, i32_w]
       rfl
     refine pure_ (i := 1) (N := some 15) (v := ?_) (a' := ?_) #[true, true, false, false, false, false, false, false, false, false, false, false, false, false, false, false] rfl rfl (any_of HT_.out (by kernel_rfl)) (fun _ _ _ h => h) (Or.inl ⟨by rfl, ?_⟩) ?_ ?_
     rotate_left
     · intro w'
       go_simp
       with_reducible rfl
     rotate_left
     · simp only [Act.put, List.setIfInBounds_toArray, List.set_cons_zero, List.set_cons_succ, i64_w, i32_w]
       rfl
     refine pure_ (i := 2) (N := some 16) (v := ?_) (a' := ?_) #[true, true, true, false, false, false, false, false, false, false, false, false, false, false, false, false] rfl rfl (any_of HT_.out (by kernel_rfl)) (fun _ _ _ h => h) (Or.inl ⟨by rfl, ?_⟩) ?_ ?_
     rotate_left
     · intro w'
       go_simp
       with_reducible rfl
     rotate_left
     · simp only [Act.put, List.setIfInBounds_toArray, List.set_cons_zero, List.set_cons_succ, i64_w, i32_w]
       rfl
     refine pure_ (i := 5) (N := some 19) (v := ?_) (a' := ?_) #[true, true, true, false, false, true, false, false, false, false, false, false, false, false, false, false] rfl rfl (any_of HT_.out (by kernel_rfl)) (fun _ _ _ h => h) (Or.inl ⟨by rfl, ?_⟩) ?_ ?_
     rotate_left
     · intro w'
       go_simp
       with_reducible rfl
     rotate_left
     · simp only [Act.put, List.setIfInBounds_toArray, List.set_cons_zero, List.set_cons_succ, i64_w, i32_w]
       rfl
     refine take_ (i := 3) (N := some 17) (v := ?_) (a' := ?_) #[true, true, true, true, false, true, false, false, false, false, false, false, false, false, false, false] rfl rfl (take_ofW HT_.out HW_.out (by kernel_rfl)) (fun _ _ _ h => h) (Or.inl ⟨by rfl, ?_⟩) hHeld ?_ ?_
     rotate_left
     · rintro w' ⟨s0, s1⟩
       go_simp
       with_reducible rfl
     rotate_left
     · simp only [Act.put, List.setIfInBounds_toArray, List.set_cons_zero, List.set_cons_succ, i64_w, i32_w]
       rfl
     refine take_ (i := 6) (N := some 20) (v := ?_) (a' := ?_) #[true, true, true, true, false, true, true, false, false, false, false, false, false, false, false, false] rfl rfl (take_ofW HT_.out HW_.out (by kernel_rfl)) (fun _ _ _ h => h) (Or.inl ⟨by rfl, ?_⟩) hHeld ?_ ?_
     rotate_left
     · rintro w' ⟨s0, s1⟩
       go_simp
       with_reducible rfl
     rotate_left
     · simp only [Act.put, List.setIfInBounds_toArray, List.set_cons_zero, List.set_cons_succ, i64_w, i32_w]
       rfl
     refine pure_ (i := 7) (N := some 21) (v := ?_) (a' := ?_) #[true, true, true, true, false, true, true, true, false, false, false, false, false, false, false, false] rfl rfl (any_of HT_.out (by kernel_rfl)) (fun _ _ _ h => h) (Or.inl ⟨by rfl, ?_⟩) ?_ ?_
     rotate_left
     · intro w'
       go_simp
       with_reducible rfl
     rotate_left
     · simp only [Act.put, List.setIfInBounds_toArray, List.set_cons_zero, List.set_cons_succ, i64_w, i32_w]
       rfl
     refine pure_ (i := 8) (N := some 22) (v := ?_) (a' := ?_) #[true, true, true, true, false, true, true, true, true, false, false, false, false, false, false, false] rfl rfl (any_of HT_.out (by kernel_rfl)) (fun _ _ _ h => h) (Or.inl ⟨by rfl, ?_⟩) ?_ ?_
     rotate_left
     · intro w'
       go_simp
       with_reducible rfl
     rotate_left
     · simp only [Act.put, List.setIfInBounds_toArray, List.set_cons_zero, List.set_cons_succ, i64_w, i32_w]
       rfl
     refine pure_ (i := 9) (N := some 23) (v := ?_) (a' := ?_) #[true, true, true, true, false, true, true, true, true, true, false, false, false, false, false, false] rfl rfl (any_of HT_.out (by kernel_rfl)) (fun _ _ _ h => h) (Or.inl ⟨by rfl, ?_⟩) ?_ ?_
     rotate_left
     · intro w'
       go_simp
       with_reducible rfl
     rotate_left
     · simp only [Act.put, List.setIfInBounds_toArray, List.set_cons_zero, List.set_cons_succ, i64_w, i32_w]
       rfl
     refine one_ (i := 4) (N := some 18) #[true, true, true, true, true, true, true, true, true, true, false, false, false, false, false, false] rfl rfl (one_of HT_.out (by kernel_rfl)) (by decide) (fun K hK => ?_)
     refine goes_ Try.func47 (by kernel_rfl) rfl #[.int .i64 1, .int .i64 x.f0] (by rfl) rfl rfl (by (try simp only [List.map_toArray, List.map_cons, List.map_nil]); first | done | rfl) ?_
     refine (number_c 1 x.f0 _ (by decide)).mono ?_
     rintro e wq ⟨v_, rfl, ho, hb⟩
     refine ⟨_, rfl, ?_⟩
     have n0_ := mk0 (below_then HBr.out HBr.out.size hb)
     have n1_ := mk0 (blk_below BK.out hb)
     have n2_ := mk0 (Kd.R_below HOc.out hb)
     clear HBr BK HOc
     have HBr := n0_
     have BK := n1_
     have HOc := n2_
     clear n0_ n1_ n2_
     obtain ⟨R18, r18, ex_⟩ := Kd.R_slice ho
     subst ex_
     have HC18 := mk0 (Kd.R_reads' ho).2.2
     have HL18 := mk0 (Kd.R_reads' ho).2.1
     clear ho hb
     refine hK.out _ _ ⟨(blk_cell BK.out 0).trans rfl, (blk_cell BK.out 1).trans rfl⟩ (fun hHeld => ?_)
     clear hK K
     refine norm_ (a' := ?_) ?_ ?_
     rotate_left
     · show Act.put _ (some 18) _ = _
       simp only [Act.put, List.setIfInBounds_toArray, List.set_cons_zero, List.set_cons_succ, i64_w, i32_w]
       rfl
     refine one_ (i := 10) (N := some 24) #[true, true, true, true, true, true, true, true, true, true, true, false, false, false, false, false] rfl rfl (one_of HT_.out (by kernel_rfl)) (by decide) (fun K hK => ?_)
     refine goes_ Try.func47 (by kernel_rfl) rfl #[.int .i64 2, .int .i64 (wrap64 (IntKind.u64.wrap ((IntKind.u64.wrap (x.f1)) + 1)))] (by rfl) rfl rfl (by (try simp only [List.map_toArray, List.map_cons, List.map_nil]); first | done | rfl) ?_
     refine (number_c 2 (wrap64 (IntKind.u64.wrap ((IntKind.u64.wrap (x.f1)) + 1))) _ (by decide)).mono ?_
     rintro e wq ⟨v_, rfl, ho, hb⟩
     refine ⟨_, rfl, ?_⟩
     have n0_ := mk0 (below_then HBr.out HBr.out.size hb)
     have n1_ := mk0 (blk_below BK.out hb)
     have n2_ := mk0 (Kd.R_below HOc.out hb)
     have n3_ := mk0 (Kd.C_below HC18.out hb)
     clear HBr BK HOc HC18
     have HBr := n0_
     have BK := n1_
     have HOc := n2_
     have HC18 := n3_
     clear n0_ n1_ n2_ n3_
     obtain ⟨R24, r24, ex_⟩ := Kd.R_slice ho
     subst ex_
     have HC24 := mk0 (Kd.R_reads' ho).2.2
     have HL24 := mk0 (Kd.R_reads' ho).2.1
     clear ho hb
     refine hK.out _ _ ⟨(blk_cell BK.out 0).trans rfl, (blk_cell BK.out 1).trans rfl⟩ (fun hHeld => ?_)
     clear hK K
     refine norm_ (a' := ?_) ?_ ?_
     rotate_left
     · show Act.put _ (some 24) _ = _
       simp only [Act.put, List.setIfInBounds_toArray, List.set_cons_zero, List.set_cons_succ, i64_w, i32_w]
       rfl
     refine one_ (i := 11) (N := some 25) #[true, true, true, true, true, true, true, true, true, true, true, true, false, false, false, false] rfl rfl (one_of HT_.out (by kernel_rfl)) (by decide) (fun K hK => ?_)
     obtain ⟨ys, hys⟩ : ∃ y_ : List (List Int), y_ = [fN 1 x.f0, fN 2 (wrap64 (IntKind.u64.wrap ((IntKind.u64.wrap (x.f1)) + 1)))] := ⟨_, rfl⟩
     refine Kd.N_lit_step (Kd.slice 5 (Kd.int .u8)) (w0 := wq) wq.heap.size 28 ?hg (N' := 25) ?hd (xs := ([fN 1 x.f0, fN 2 (wrap64 (IntKind.u64.wrap ((IntKind.u64.wrap (x.f1)) + 1)))] : List (List Int))) (inner := [.slice R18 (fN 1 x.f0).length r18, .slice R24 (fN 2 (wrap64 (IntKind.u64.wrap ((IntKind.u64.wrap (x.f1)) + 1)))).length r24]) (ok := fun _ => True) (okp := fun k_ => k_ < wq.heap.size) ?hr ?hp (fun _ _ => trivial) trivial (Below.refl _ _) (Nat.le_refl _) (by simp) ?_
     (case hd => rfl)
     (case hg => rfl)
     (case hr => first | (go_simp; done) | (go_simp; rfl))
     (case hp => exact Reps.one (fk_ HC18.out HL18.out) (Reps.one (fk_ HC24.out HL24.out) (Reps.none _ _)))
     intro v_ wq hn hb hg_ hnew_
     clear hg_ hnew_
     rw [← hys] at hn
     have n0_ := mk0 (below_then HBr.out HBr.out.size hb)
     have n1_ := mk0 (blk_below BK.out hb)
     have n2_ := mk0 (Kd.R_below HOc.out hb)
     have n3_ := mk0 (Kd.C_below HC18.out hb)
     have n4_ := mk0 (Kd.C_below HC24.out hb)
     clear HBr BK HOc HC18 HC24
     have HBr := n0_
     have BK := n1_
     have HOc := n2_
     have HC18 := n3_
     have HC24 := n4_
     clear n0_ n1_ n2_ n3_ n4_
     obtain ⟨Rz, rz, ex_⟩ := Kd.N_slice hn
     subst ex_
     have HCz := mk0 (Kd.N_reads' hn).2.2
     clear hn hb
     have HF := mk0 (show ys.flatten = bRange x from by rw [hys]; simp [bRange])
     have HY := mk0 (show ys.length < 1000000 from by rw [hys]; simp)
     clear hys
     refine hK.out _ _ ⟨(blk_cell BK.out 0).trans rfl, (blk_cell BK.out 1).trans rfl⟩ (fun hHeld => ?_)
     clear hK K
     refine norm_ (a' := ?_) ?_ ?_
     rotate_left
     · show Act.put _ (some 25) _ = _
       simp only [Act.put, List.setIfInBounds_toArray, List.set_cons_zero, List.set_cons_succ, i64_w, i32_w]
       rfl
     refine one_ (i := 12) (N := some 26) #[true, true, true, true, true, true, true, true, true, true, true, true, true, false, false, false] rfl rfl (one_of HT_.out (by kernel_rfl)) (by decide) (fun K hK => ?_)
     refine goes_ Try.func48 (by kernel_rfl) rfl #[.slice Rz ys.length rz] (by rfl) rfl rfl (by (try simp only [List.map_toArray, List.map_cons, List.map_nil]); first | done | rfl) ?_
     refine (all_c ys Rz rz _ HCz.out (by rw [HF.out]; have := HZ.out; omega) HY.out).mono ?_
     rintro e wq ⟨v_, rfl, ho, hb⟩
     refine ⟨_, rfl, ?_⟩
     have n0_ := mk0 (below_then HBr.out HBr.out.size hb)
     have n1_ := mk0 (blk_below BK.out hb)
     have n2_ := mk0 (Kd.R_below HOc.out hb)
     have n3_ := mk0 (Kd.C_below HC18.out hb)
     have n4_ := mk0 (Kd.C_below HC24.out hb)
     have n5_ := mk0 (Kd.C_below HCz.out hb)
     clear HBr BK HOc HC18 HC24 HCz
     have HBr := n0_
     have BK := n1_
     have HOc := n2_
     have HC18 := n3_
     have HC24 := n4_
     have HCz := n5_
     clear n0_ n1_ n2_ n3_ n4_ n5_
     rw [HF.out] at ho
     obtain ⟨R26, r26, ex_⟩ := Kd.R_slice ho
     subst ex_
     have HC26 := mk0 (Kd.R_reads' ho).2.2
     have HL26 := mk0 (Kd.R_reads' ho).2.1
     clear ho hb
     refine hK.out _ _ ⟨(blk_cell BK.out 0).trans rfl, (blk_cell BK.out 1).trans rfl⟩ (fun hHeld => ?_)
     clear hK K
     refine norm_ (a' := ?_) ?_ ?_
     rotate_left
     · show Act.put _ (some 26) _ = _
       simp only [Act.put, List.setIfInBounds_toArray, List.set_cons_zero, List.set_cons_succ, i64_w, i32_w]
       rfl
     refine one_ (i := 13) (N := some 27) #[true, true, true, true, true, true, true, true, true, true, true, true, true, true, false, false] rfl rfl (one_of HT_.out (by kernel_rfl)) (by decide) (fun K hK => ?_)
     refine goes_ Try.func71 (by kernel_rfl) rfl #[.int .i64 num, .slice R26 (bRange x).length r26] (by rfl) rfl rfl (by (try simp only [List.map_toArray, List.map_cons, List.map_nil]); first | done | rfl) ?_
     refine (part_c num (bRange x) R26 r26 _ HN.out HZ.out HC26.out HL26.out).mono ?_
     rintro e wq ⟨v_, rfl, ho, hb⟩
     refine ⟨_, rfl, ?_⟩
     have n0_ := mk0 (below_then HBr.out HBr.out.size hb)
     have n1_ := mk0 (blk_below BK.out hb)
     have n2_ := mk0 (Kd.R_below HOc.out hb)
     have n3_ := mk0 (Kd.C_below HC18.out hb)
     have n4_ := mk0 (Kd.C_below HC24.out hb)
     have n5_ := mk0 (Kd.C_below HCz.out hb)
     have n6_ := mk0 (Kd.C_below HC26.out hb)
     clear HBr BK HOc HC18 HC24 HCz HC26
     have HBr := n0_
     have BK := n1_
     have HOc := n2_
     have HC18 := n3_
     have HC24 := n4_
     have HCz := n5_
     have HC26 := n6_
     clear n0_ n1_ n2_ n3_ n4_ n5_ n6_
     obtain ⟨R27, r27, ex_⟩ := Kd.R_slice ho
     subst ex_
     have HC27 := mk0 (Kd.R_reads' ho).2.2
     have HL27 := mk0 (Kd.R_reads' ho).2.1
     clear ho hb
     refine hK.out _ _ ⟨(blk_cell BK.out 0).trans rfl, (blk_cell BK.out 1).trans rfl⟩ (fun hHeld => ?_)
     clear hK K
     refine norm_ (a' := ?_) ?_ ?_
     rotate_left
     · show Act.put _ (some 27) _ = _
       simp only [Act.put, List.setIfInBounds_toArray, List.set_cons_zero, List.set_cons_succ, i64_w, i32_w]
       rfl
     refine one_ (i := 14) (N := some 28) #[true, true, true, true, true, true, true, true, true, true, true, true, true, true, true, false] rfl rfl (one_of HT_.out (by kernel_rfl)) (by decide) (fun K hK => ?_)
     refine Kd.R_append_rows_step (Kd.int .u8) (w0 := w) w.heap.size (by rfl) (.tmp 14) (.tmp 27) 28 5 (.int .u8 0) 1 rfl Try.underlying28 GDescGrows.info5 rfl (by decide) (by omega) (.slice Av acc.length cv) acc (fB num (bRange x)) _ _ _ (fun _ => True) (fun _ => False) rfl rfl HOc.out HC27.out (fun _ _ h => h) (fun _ h => h.elim) (fun _ _ => trivial) (below_then HB.out HB.out.size HBr.out) (below_then HB.out HB.out.size HBr.out).size (by have := hlen.out; omega) ?_
     intro v1 wq ho hb hg hat
     have HOn := mk0 ho
     have HBn := mk0 hb
     have n_ := mk0 (blk_grown BK.out hg (Kd.R_ne HOc.out BK.out (by decide)))
     clear BK
     have BK := n_
     clear n_
     clear ho hb hg hat
     clear HBr
     clear HOc
     clear HC18
     clear HC24
     clear HCz
     clear HC26
     clear HC27
     refine hK.out _ _ ⟨(blk_cell BK.out 0).trans rfl, (blk_cell BK.out 1).trans rfl⟩ (fun hHeld => ?_)
     clear hK K
     refine norm_ (a' := ?_) ?_ ?_
     rotate_left
     · show Act.put _ (some 28) _ = _
       simp only [Act.put, List.setIfInBounds_toArray, List.set_cons_zero, List.set_cons_succ, i64_w, i32_w]
       rfl
     refine pure_ (i := 15) (N := some 5) (v := ?_) (a' := ?_) #[true, true, true, true, true, true, true, true, true, true, true, true, true, true, true, true] rfl rfl (any_of HT_.out (by kernel_rfl)) (fun _ _ _ h => h) (Or.inl ⟨by rfl, ?_⟩) ?_ ?_
     rotate_left
     · intro w'
       go_simp
       with_reducible rfl
     rotate_left
     · simp only [Act.put, List.setIfInBounds_toArray, List.set_cons_zero, List.set_cons_succ, i64_w, i32_w]
       rfl
     refine done_ (done_of HT_.out (by kernel_rfl)) ?_
     go_wp2
     go_roundg k1
     case measure => exact Nat.lt_succ_self k1
     case rel => exact ⟨i + 1, (by first | rfl | (rw [hwp]) | (simp [hwp]; done)), ⟨(Nat.add_right_comm i 1 k1).trans HI.out⟩, ⟨by rw [htake.out]; exact HOn.out⟩, ⟨HBn.out⟩⟩
  · have d0 := dec_ge hlt
    rw [List.take_of_length_le (Nat.le_of_not_lt hlt)] at hacc
    have HE := mk0 hacc
    clear hacc
    go_wp2
    go_ret
    exact ⟨_, rfl, by rw [HE.out]; exact HO.out, HB.out⟩
end Go.Proofs.Yticnihfjnjliiaa.R1
