/- glossarylaw11.All answers. -/
import Derived.Test.YticnihfjnjliiaaDp
import Derived.Test.YticnihfjnjliiaaSw
namespace Go.Proofs.Yticnihfjnjliiaa.Al
open Go.RowKit Go.Proofs.Yticnihfjnjliiaa.GDescGrows Go.Proofs.YticnihfjnjliiaaW.PrintWords Go.Proofs.YticnihfjnjliiaaW.PrintLast Go.Proofs.YticnihfjnjliiaaW.PrintMore Go.Proofs.Yticnihfjnjliiaa.Rk Go.Proofs.Yticnihfjnjliiaa.Dp
set_option linter.unusedVariables false
set_option linter.unusedSimpArgs false
open Classical in
/-- What Few and All answer. -/
noncomputable def fewB (x : S30) : Bool := if h : ∃ b, ∀ (w : World) (cs : List Value), k30.K w x cs → Calls Try.prog 8 #[.agg cs.toArray] w fun e w' => e = .returned (.bool b) ∧ Below w.heap.size w w' then Classical.choose h else false
theorem few_b (x : S30) (g : good30 x) (w : World) (cs : List Value) (hK : k30.K w x cs) : Calls Try.prog 8 #[.agg cs.toArray] w fun e w' => e = .returned (.bool (fewB x)) ∧ Below w.heap.size w w' := by
  have h := few_e x g
  unfold fewB
  rw [dif_pos h]
  exact Classical.choose_spec h w cs hK
noncomputable def allB (l : List S30) : Bool := decide (l.length ≤ 10) && l.all fewB
theorem allB_false {l : List S30} {x : S30} (h : x ∈ l) (hf : fewB x = false) : allB l = false := by
  unfold allB
  rw [Bool.and_eq_false_iff]
  right
  exact List.all_eq_false.2 ⟨x, h, by rw [hf]; decide⟩
theorem new_ (w : World) (o : Obj) : (w.alloc o).heap[w.heap.size]? = some o := by simp [World.alloc, -World.alloc_eq]
def All_ (l : List S30) (w : World) (e : Ending) (w' : World) : Prop := e = .returned (.bool (allB l)) ∧ Below w.heap.size w w'
set_option maxHeartbeats 8000000 in
set_option maxRecDepth 100000 in
theorem all_b (l : List S30) (hg : ∀ y ∈ l, good30 y) (hll : l.length ≤ 4294967296) (A : Option Addr) (c : Nat) (w : World) (hr : Kd.C k30 w A l.length l) (hc : l.length ≤ c) :
    Calls Try.prog 11 #[.slice A l.length c] w fun e w' => All_ l w e w' := by
  have HB0 := Aside0.mk (Below.refl w.heap.size w)
  by_cases h10 : l.length ≤ 10
  · have hd : decide ((l.length : Int) > 10) = false := decide_eq_false (by omega)
    have H10 := Aside0.mk h10
    clear h10
    go_enter Try.func11, Try.ntmps11
    go_wp2
    go_loopg [10] l.length (fun kq v10 w' => ∃ i : Nat, v10 = .int .i64 (i : Int) ∧ Aside0 (i + kq = l.length) ∧ Aside0 (Below w.heap.size w w') ∧ Aside0 (∀ x ∈ l.take i, fewB x = true))
    case atStart =>
      exact ⟨0, rfl, ⟨by omega⟩, ⟨HB0.out⟩, ⟨fun x hx => by simp at hx⟩⟩
    case round =>
      obtain ⟨i, rfl, HI, HB, HO⟩ := hrel
      by_cases hlt : i < l.length
      · have hwp : wrap64 ((i : Int) + 1) = ((i + 1 : Nat) : Int) := by unfold wrap64; omega
        have d0 : decide ((i : Int) < (l.length : Int)) = true := decide_eq_true (by omega)
        have p0 : (0 ≤ (i : Int)) = True := eq_true (by omega)
        have q0 : ((i : Int) < (l.length : Int)) = True := eq_true (by omega)
        obtain ⟨x, hx⟩ : ∃ x, x = l[i] := ⟨_, rfl⟩
        have hmem : x ∈ l := by rw [hx]; exact List.getElem_mem hlt
        obtain ⟨ad, cc, ea, _, hKx, hcc⟩ := Kd.C_get (Kd.C_below hr HB.out) z30 (i : Int) (by omega) (by omega)
        have hxe : (l.getD i z30) = x := by rw [hx]; simp [hlt]
        rw [Int.toNat_natCast] at hKx hcc
        rw [hxe] at hKx
        obtain ⟨A2, c2, A3, c3, A4, c4, A5, c5, A6, c6, A7, c7, A9, c9, A10, c10, ecc, l2, g2, l3, g3, l4, g4, l5, g5, l6, g6, l7, g7, l9, g9, l10, g10⟩ := k30_open hKx
        subst ecc
        have e0 : wr.cell? (ad.add (i * 11)) = some (.string x.f0) := by have := hcc 0 _ rfl; rwa [show i * k30.sz + 0 = i * 11 from rfl] at this
        have e1 : wr.cell? ⟨(ad.add (i * 11)).block, (ad.add (i * 11)).off + 1, none⟩ = some (.string x.f1) := by have := hcc 1 _ rfl; rw [show i * k30.sz + 1 = i * 11 + 1 from rfl] at this; rw [← add_field _ _ 1 (by omega)]; exact this
        have e2 : wr.cell? ⟨(ad.add (i * 11)).block, (ad.add (i * 11)).off + 2, none⟩ = some (.slice A2 x.f2.length c2) := by have := hcc 2 _ rfl; rw [show i * k30.sz + 2 = i * 11 + 2 from rfl] at this; rw [← add_field _ _ 2 (by omega)]; exact this
        have e3 : wr.cell? ⟨(ad.add (i * 11)).block, (ad.add (i * 11)).off + 3, none⟩ = some (.slice A3 x.f3.length c3) := by have := hcc 3 _ rfl; rw [show i * k30.sz + 3 = i * 11 + 3 from rfl] at this; rw [← add_field _ _ 3 (by omega)]; exact this
        have e4 : wr.cell? ⟨(ad.add (i * 11)).block, (ad.add (i * 11)).off + 4, none⟩ = some (.slice A4 x.f4.length c4) := by have := hcc 4 _ rfl; rw [show i * k30.sz + 4 = i * 11 + 4 from rfl] at this; rw [← add_field _ _ 4 (by omega)]; exact this
        have e5 : wr.cell? ⟨(ad.add (i * 11)).block, (ad.add (i * 11)).off + 5, none⟩ = some (.slice A5 x.f5.length c5) := by have := hcc 5 _ rfl; rw [show i * k30.sz + 5 = i * 11 + 5 from rfl] at this; rw [← add_field _ _ 5 (by omega)]; exact this
        have e6 : wr.cell? ⟨(ad.add (i * 11)).block, (ad.add (i * 11)).off + 6, none⟩ = some (.slice A6 x.f6.length c6) := by have := hcc 6 _ rfl; rw [show i * k30.sz + 6 = i * 11 + 6 from rfl] at this; rw [← add_field _ _ 6 (by omega)]; exact this
        have e7 : wr.cell? ⟨(ad.add (i * 11)).block, (ad.add (i * 11)).off + 7, none⟩ = some (.slice A7 x.f7.length c7) := by have := hcc 7 _ rfl; rw [show i * k30.sz + 7 = i * 11 + 7 from rfl] at this; rw [← add_field _ _ 7 (by omega)]; exact this
        have e8 : wr.cell? ⟨(ad.add (i * 11)).block, (ad.add (i * 11)).off + 8, none⟩ = some (.string x.f8) := by have := hcc 8 _ rfl; rw [show i * k30.sz + 8 = i * 11 + 8 from rfl] at this; rw [← add_field _ _ 8 (by omega)]; exact this
        have e9 : wr.cell? ⟨(ad.add (i * 11)).block, (ad.add (i * 11)).off + 9, none⟩ = some (.slice A9 x.f9.length c9) := by have := hcc 9 _ rfl; rw [show i * k30.sz + 9 = i * 11 + 9 from rfl] at this; rw [← add_field _ _ 9 (by omega)]; exact this
        have e10 : wr.cell? ⟨(ad.add (i * 11)).block, (ad.add (i * 11)).off + 10, none⟩ = some (.slice A10 x.f10.length c10) := by have := hcc 10 _ rfl; rw [show i * k30.sz + 10 = i * 11 + 10 from rfl] at this; rw [← add_field _ _ 10 (by omega)]; exact this
        subst ea
        have HX := Aside0.mk (hg x hmem)
        have hok : fewB x = true → Aside0 (∀ y ∈ l.take (i + 1), fewB y = true) := fun h => ⟨fun y hy => by
          rw [List.take_add_one, List.getElem?_eq_getElem hlt, ← hx, Option.toList_some] at hy
          rcases List.mem_append.1 hy with hy | hy
          · exact HO.out y hy
          · rw [List.mem_singleton.1 hy]; exact h⟩
        clear hx hxe
        have HFB := few_b x HX.out
        have hno : fewB x = false → Aside0 (allB l = false) := fun h => ⟨allB_false hmem h⟩
        cases hfb : fewB x with
        | true =>
          rw [hfb] at HFB
          replace hok := hok hfb
          clear hno
          clear hfb
          cases gk with
          | zero => exact absurd HI.out (by omega)
          | succ k1 =>
            go_wp2_with (first | ((with_reducible refine gate_dst (N := 4) rfl ?_); (try (refine gate_guard (by rfl) ?_; dsimp only)); refine box_event ?hg (N := 4) ?hd (cs := #[.string (⟨#[]⟩ : ByteArray), .string (⟨#[]⟩ : ByteArray), .slice none 0 0, .slice none 0 0, .slice none 0 0, .slice none 0 0, .slice none 0 0, .slice none 0 0, .string (⟨#[]⟩ : ByteArray), .slice none 0 0, .slice none 0 0]) (t := 30) ?hr ?_; (case hd => rfl); (case hg => rfl); (case hr => first | (go_simp; done) | (go_simp; rfl)); intro gb hg9 w9 hbox hb9; have HB9 := Aside0.mk hb9; have BX := Aside0.mk hbox; have HG9 := Aside0.mk hg9; clear hb9 hbox hg9) | ((with_reducible refine gate_store (t := 30) (p := 4) rfl ?_); refine Go.Proofs.Yticnihfjnjliiaa.Sw.store_whole rfl rfl rfl gb 30 _ _ rfl rfl BX.out (by kernel_rfl) rfl rfl ?_; intro wS hS_ hbS_ hkS_; have HBS := Aside0.mk (hbS_ wr.heap.size wr (Nat.le_of_eq HG9.out.symm) HB9.out); have BXS := Aside0.mk hS_; clear hS_ hbS_ hkS_ BX; have s0 : _ = some ((.string x.f0) : Value) := (blk_cell BXS.out 0).trans rfl; have s1 : _ = some ((.string x.f1) : Value) := (blk_cell BXS.out 1).trans rfl; have s2 : _ = some ((.slice A2 x.f2.length c2) : Value) := (blk_cell BXS.out 2).trans rfl; have s3 : _ = some ((.slice A3 x.f3.length c3) : Value) := (blk_cell BXS.out 3).trans rfl; have s4 : _ = some ((.slice A4 x.f4.length c4) : Value) := (blk_cell BXS.out 4).trans rfl; have s5 : _ = some ((.slice A5 x.f5.length c5) : Value) := (blk_cell BXS.out 5).trans rfl; have s6 : _ = some ((.slice A6 x.f6.length c6) : Value) := (blk_cell BXS.out 6).trans rfl; have s7 : _ = some ((.slice A7 x.f7.length c7) : Value) := (blk_cell BXS.out 7).trans rfl; have s8 : _ = some ((.string x.f8) : Value) := (blk_cell BXS.out 8).trans rfl; have s9 : _ = some ((.slice A9 x.f9.length c9) : Value) := (blk_cell BXS.out 9).trans rfl; have s10 : _ = some ((.slice A10 x.f10.length c10) : Value) := (blk_cell BXS.out 10).trans rfl) | (go_at_call 8; refine (HFB _ [.string x.f0, .string x.f1, .slice A2 x.f2.length c2, .slice A3 x.f3.length c3, .slice A4 x.f4.length c4, .slice A5 x.f5.length c5, .slice A6 x.f6.length c6, .slice A7 x.f7.length c7, .string x.f8, .slice A9 x.f9.length c9, .slice A10 x.f10.length c10] (k30_mk _ x l2 (Kd.C_below g2 HBS.out) l3 (Kd.C_below g3 HBS.out) l4 (Kd.C_below g4 HBS.out) l5 (Kd.C_below g5 HBS.out) l6 (Kd.C_below g6 HBS.out) l7 (Kd.C_below g7 HBS.out) l9 (Kd.C_below g9 HBS.out) l10 (Kd.C_below g10 HBS.out))).mono ?_; rintro e w1 ⟨rfl, h3⟩; have hb1 := Aside0.mk (below_then HBS.out HBS.out.size h3); clear h3))
            go_roundg k1
            case measure => exact Nat.lt_succ_self k1
            case rel => exact ⟨i + 1, (by first | rfl | (rw [hwp]) | (simp [hwp]; done)), ⟨by have := HI.out; omega⟩, ⟨below_then HB.out HB.out.size hb1.out⟩, hok⟩
        | false =>
          rw [hfb] at HFB
          replace hno := hno hfb
          clear hok hfb
          go_wp2_with (first | ((with_reducible refine gate_dst (N := 4) rfl ?_); (try (refine gate_guard (by rfl) ?_; dsimp only)); refine box_event ?hg (N := 4) ?hd (cs := #[.string (⟨#[]⟩ : ByteArray), .string (⟨#[]⟩ : ByteArray), .slice none 0 0, .slice none 0 0, .slice none 0 0, .slice none 0 0, .slice none 0 0, .slice none 0 0, .string (⟨#[]⟩ : ByteArray), .slice none 0 0, .slice none 0 0]) (t := 30) ?hr ?_; (case hd => rfl); (case hg => rfl); (case hr => first | (go_simp; done) | (go_simp; rfl)); intro gb hg9 w9 hbox hb9; have HB9 := Aside0.mk hb9; have BX := Aside0.mk hbox; have HG9 := Aside0.mk hg9; clear hb9 hbox hg9) | ((with_reducible refine gate_store (t := 30) (p := 4) rfl ?_); refine Go.Proofs.Yticnihfjnjliiaa.Sw.store_whole rfl rfl rfl gb 30 _ _ rfl rfl BX.out (by kernel_rfl) rfl rfl ?_; intro wS hS_ hbS_ hkS_; have HBS := Aside0.mk (hbS_ wr.heap.size wr (Nat.le_of_eq HG9.out.symm) HB9.out); have BXS := Aside0.mk hS_; clear hS_ hbS_ hkS_ BX; have s0 : _ = some ((.string x.f0) : Value) := (blk_cell BXS.out 0).trans rfl; have s1 : _ = some ((.string x.f1) : Value) := (blk_cell BXS.out 1).trans rfl; have s2 : _ = some ((.slice A2 x.f2.length c2) : Value) := (blk_cell BXS.out 2).trans rfl; have s3 : _ = some ((.slice A3 x.f3.length c3) : Value) := (blk_cell BXS.out 3).trans rfl; have s4 : _ = some ((.slice A4 x.f4.length c4) : Value) := (blk_cell BXS.out 4).trans rfl; have s5 : _ = some ((.slice A5 x.f5.length c5) : Value) := (blk_cell BXS.out 5).trans rfl; have s6 : _ = some ((.slice A6 x.f6.length c6) : Value) := (blk_cell BXS.out 6).trans rfl; have s7 : _ = some ((.slice A7 x.f7.length c7) : Value) := (blk_cell BXS.out 7).trans rfl; have s8 : _ = some ((.string x.f8) : Value) := (blk_cell BXS.out 8).trans rfl; have s9 : _ = some ((.slice A9 x.f9.length c9) : Value) := (blk_cell BXS.out 9).trans rfl; have s10 : _ = some ((.slice A10 x.f10.length c10) : Value) := (blk_cell BXS.out 10).trans rfl) | (go_at_call 8; refine (HFB _ [.string x.f0, .string x.f1, .slice A2 x.f2.length c2, .slice A3 x.f3.length c3, .slice A4 x.f4.length c4, .slice A5 x.f5.length c5, .slice A6 x.f6.length c6, .slice A7 x.f7.length c7, .string x.f8, .slice A9 x.f9.length c9, .slice A10 x.f10.length c10] (k30_mk _ x l2 (Kd.C_below g2 HBS.out) l3 (Kd.C_below g3 HBS.out) l4 (Kd.C_below g4 HBS.out) l5 (Kd.C_below g5 HBS.out) l6 (Kd.C_below g6 HBS.out) l7 (Kd.C_below g7 HBS.out) l9 (Kd.C_below g9 HBS.out) l10 (Kd.C_below g10 HBS.out))).mono ?_; rintro e w1 ⟨rfl, h3⟩; have hb1 := Aside0.mk (below_then HBS.out HBS.out.size h3); clear h3))
          go_ret
          exact ⟨by rw [hno.out]; rfl, below_then HB.out HB.out.size hb1.out⟩
      · have d0 : decide ((i : Int) < (l.length : Int)) = false := decide_eq_false (by omega)
        have HT : Aside0 (allB l = true) := ⟨by
          unfold allB
          rw [decide_eq_true H10.out, Bool.true_and]
          exact List.all_eq_true.2 (fun x hx => HO.out x (by rw [List.take_of_length_le (by omega)]; exact hx))⟩
        go_wp2
        go_ret
        exact ⟨by rw [HT.out]; rfl, HB.out⟩
  · have hd : decide ((l.length : Int) > 10) = true := decide_eq_true (by omega)
    have hf : Aside0 (allB l = false) := ⟨by unfold allB; rw [decide_eq_false h10, Bool.false_and]⟩
    clear h10
    go_enter Try.func11, Try.ntmps11
    go_wp2
    go_ret
    exact ⟨by rw [hf.out]; rfl, HB0.out⟩
end Go.Proofs.Yticnihfjnjliiaa.Al
