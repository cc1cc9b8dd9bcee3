/- Parts of desc: lists of fields. -/
import Derived.Test.YticnihfjnjliiaaKBp
import Derived.Test.YticnihfjnjliiaaKSw
namespace Go.Proofs.Yticnihfjnjliiaa.Bp
open Go.Proofs.Yticnihfjnjliiaa.Pt Go.Proofs.Yticnihfjnjliiaa.GDescGrows
open Go.RowKit Go.Proofs.YticnihfjnjliiaaW.PrintWords Go.Proofs.YticnihfjnjliiaaW.PrintLast Go.Proofs.YticnihfjnjliiaaW.PrintMore
set_option linter.unusedVariables false
set_option linter.unusedSimpArgs false
set_option maxHeartbeats 4000000 in
set_option maxRecDepth 100000 in
theorem bp_clo88 (gq gf gx : Nat) (x : S69) (A11 : Option Addr) (c11 : Nat) (A12 : Option Addr) (c12 : Nat) (fb : List Int) (v : Value) (acc : List Int) (w0 w : World)
    (hf : w.heap[gf]? = some (.cells #[.func (.func 66) #[] #[]] 119 (0, 0))) (hx : w.heap[gx]? = some (.cells #[.string x.f0, .int .i64 x.f1, .int .i64 x.f2, .int .i64 x.f3, .string x.f4, .string x.f5, .string x.f6, .bool x.f7, .int .i64 x.f8, .string x.f9, .bool x.f10, .slice A11 x.f11.length c11, .slice A12 x.f12.length c12] 69 (0, 0)))
    (hfill : Calls Try.prog 66 #[.pointer (some ⟨gq, 0, none⟩), .agg #[.string x.f0, .int .i64 x.f1, .int .i64 x.f2, .int .i64 x.f3, .string x.f4, .string x.f5, .string x.f6, .bool x.f7, .int .i64 x.f8, .string x.f9, .bool x.f10, .slice A11 x.f11.length c11, .slice A12 x.f12.length c12]] w fun e w' => Put_ w0 w gq v (acc ++ fb) e w') :
    Calls Try.prog 88 #[.pointer (some ⟨gq, 0, none⟩), .pointer (some ⟨gf, 0, none⟩), .pointer (some ⟨gx, 0, none⟩)] w fun e w' => Put_ w0 w gq v (acc ++ fb) e w' := by
  have hcf_ : w.cell? ⟨gf, 0, none⟩ = some (.func (.func 66) #[] #[]) := (blk_cell hf 0).trans rfl
  have d0 : w.cell? ⟨gx, 0, none⟩ = some (.string x.f0) := (blk_cell hx 0).trans rfl
  have d1 : w.cell? ⟨gx, 1, none⟩ = some (.int .i64 x.f1) := (blk_cell hx 1).trans rfl
  have d2 : w.cell? ⟨gx, 2, none⟩ = some (.int .i64 x.f2) := (blk_cell hx 2).trans rfl
  have d3 : w.cell? ⟨gx, 3, none⟩ = some (.int .i64 x.f3) := (blk_cell hx 3).trans rfl
  have d4 : w.cell? ⟨gx, 4, none⟩ = some (.string x.f4) := (blk_cell hx 4).trans rfl
  have d5 : w.cell? ⟨gx, 5, none⟩ = some (.string x.f5) := (blk_cell hx 5).trans rfl
  have d6 : w.cell? ⟨gx, 6, none⟩ = some (.string x.f6) := (blk_cell hx 6).trans rfl
  have d7 : w.cell? ⟨gx, 7, none⟩ = some (.bool x.f7) := (blk_cell hx 7).trans rfl
  have d8 : w.cell? ⟨gx, 8, none⟩ = some (.int .i64 x.f8) := (blk_cell hx 8).trans rfl
  have d9 : w.cell? ⟨gx, 9, none⟩ = some (.string x.f9) := (blk_cell hx 9).trans rfl
  have d10 : w.cell? ⟨gx, 10, none⟩ = some (.bool x.f10) := (blk_cell hx 10).trans rfl
  have d11 : w.cell? ⟨gx, 11, none⟩ = some (.slice A11 x.f11.length c11) := (blk_cell hx 11).trans rfl
  have d12 : w.cell? ⟨gx, 12, none⟩ = some (.slice A12 x.f12.length c12) := (blk_cell hx 12).trans rfl
  go_enter Try.func88, Try.ntmps88
  go_wp2_with (first | (go_at_call 66; refine hfill.mono ?_; rintro e w1 ⟨rfl, h1⟩))
  go_end0
  exact ⟨rfl, h1⟩
set_option maxHeartbeats 4000000 in
set_option maxRecDepth 100000 in
theorem bp_made88 (gf gx : Nat) (x : S69) (A11 : Option Addr) (c11 : Nat) (A12 : Option Addr) (c12 : Nat) (fb : List Int) (w : World) (hf : w.heap[gf]? = some (.cells #[.func (.func 66) #[] #[]] 119 (0, 0))) (hx : w.heap[gx]? = some (.cells #[.string x.f0, .int .i64 x.f1, .int .i64 x.f2, .int .i64 x.f3, .string x.f4, .string x.f5, .string x.f6, .bool x.f7, .int .i64 x.f8, .string x.f9, .bool x.f10, .slice A11 x.f11.length c11, .slice A12 x.f12.length c12] 69 (0, 0)))
    (hfill : ∀ (W : World) (gq : Nat), Below w.heap.size w W → w.heap.size ≤ gq → Pt_ w.heap.size W gq (.slice none 0 0) [] → Calls Try.prog 66 #[.pointer (some ⟨gq, 0, none⟩), .agg #[.string x.f0, .int .i64 x.f1, .int .i64 x.f2, .int .i64 x.f3, .string x.f4, .string x.f5, .string x.f6, .bool x.f7, .int .i64 x.f8, .string x.f9, .bool x.f10, .slice A11 x.f11.length c11, .slice A12 x.f12.length c12]] W fun e w' => Put_ w W gq (.slice none 0 0) ([] ++ fb) e w') :
    Calls Try.prog 36 #[.func (.func 88) #[] #[.pointer (some ⟨gf, 0, none⟩), .pointer (some ⟨gx, 0, none⟩)]] w fun e w' => ∃ v, e = .returned v ∧ Kd.R (Kd.int .u8) 5 w' w.heap.size (fun _ => True) v fb ∧ Below w.heap.size w w' := by
  go_enter Try.func36, Try.ntmps36
  go_wp2_with (first | (go_at_call 88; refine (bp_clo88 w.heap.size gf gx x A11 c11 A12 c12 fb (.slice none 0 0) [] w _ (blk_alloc hf _) (blk_alloc hx _) (hfill _ _ (below_alloc (Below.refl _ _) _) (Nat.le_refl _) ⟨bp_new _ _, Kd.R_nil _ _ _ _ _⟩)).mono ?_; rintro e w1 ⟨rfl, v, ⟨h1, h2⟩, h3, h4⟩; obtain ⟨Ao, co, eo⟩ := Kd.R_slice h2; subst eo; have hcp : _ = some ((.slice Ao ([] ++ fb).length co) : Value) := (blk_cell h1 0).trans rfl; have hzp := blk_frozen h1 0))
  go_ret
  exact ⟨_, rfl, by simpa using h2, h4⟩
set_option maxHeartbeats 4000000 in
set_option maxRecDepth 100000 in
theorem bp_list65 (k gp : Nat) (num : Int) (A : Option Addr) (c : Nat) (l : List S69) (fb fs : S69 → List Int) (v : Value) (acc : List Int) (w0 w : World) (hB : Below w0.heap.size w0 w) (hg : w0.heap.size ≤ gp) (hp : Pt_ w0.heap.size w gp v acc)
    (hr : Kd.C k69 w0 A l.length l) (hc : l.length ≤ c) (hput : ∀ x ∈ l, ∃ er, wire_Put.f k num 2 0 (fb x) = some (fs x, er)) (hl : acc.length + (l.flatMap fs).length < 140737488355328) (hll : l.length < 9223372036854775807)
    (hfill : ∀ x ∈ l, ∀ (W0 W : World) (gq : Nat), Below w0.heap.size w0 W0 → Below W0.heap.size W0 W → W0.heap.size ≤ gq → Pt_ W0.heap.size W gq (.slice none 0 0) [] → ∀ (A11 : Option Addr) (c11 : Nat), ∀ (A12 : Option Addr) (c12 : Nat), x.f11.length ≤ c11 → Kd.C (Kd.int .u8) W0 A11 x.f11.length x.f11 → x.f12.length ≤ c12 → Kd.C (Kd.int .u8) W0 A12 x.f12.length x.f12 → Calls Try.prog 66 #[.pointer (some ⟨gq, 0, none⟩), .agg #[.string x.f0, .int .i64 x.f1, .int .i64 x.f2, .int .i64 x.f3, .string x.f4, .string x.f5, .string x.f6, .bool x.f7, .int .i64 x.f8, .string x.f9, .bool x.f10, .slice A11 x.f11.length c11, .slice A12 x.f12.length c12]] W fun e w' => Put_ W0 W gq (.slice none 0 0) ([] ++ fb x) e w') :
    Calls Try.prog 65 #[.pointer (some ⟨gp, 0, none⟩), .int .i64 num, .slice A l.length c, .func (.func 66) #[] #[]] w fun e w' => Put_ w0 w gp v (acc ++ l.flatMap fs) e w' := by
  have HPP := Aside0.mk hp
  have hgf : w.heap.size ≠ gp := Nat.ne_of_gt (blk_lt hp.cell)
  have HB0 := Aside0.mk hB
  go_enter Try.func65, Try.ntmps65
  go_wp2
  have HK0 := Aside0.mk (Keep5.of_below (below_alloc (Below.refl w.heap.size w) (.cells #[.func (.func 66) #[] #[]] 119)) gp)
  have HF0 := Aside0.mk (bp_new w (.cells #[.func (.func 66) #[] #[]] 119))
  go_loopg [12] l.length (fun kq v12 w' => ∃ i : Nat, v12 = .int .i64 (i : Int) ∧ Aside0 (i + kq = l.length) ∧ Aside0 (∃ v', Pt_ w0.heap.size w' gp v' (acc ++ (l.take i).flatMap fs)) ∧ Aside0 (Keep5 w w' gp) ∧ Aside0 (Below w0.heap.size w0 w') ∧ Aside0 (w'.heap[w.heap.size]? = some (.cells #[.func (.func 66) #[] #[]] 119 (0, 0))))
  case atStart =>
    exact ⟨0, rfl, ⟨by omega⟩, ⟨v, by simpa using (⟨blk_alloc hp.cell _, Kd.R_alloc hp.own _⟩ : Pt_ w0.heap.size _ gp v acc)⟩, ⟨HK0.out⟩, ⟨below_alloc hB _⟩, ⟨HF0.out⟩⟩
  case round =>
    obtain ⟨i, rfl, HI, HP, HK, HB, HF⟩ := hrel
    by_cases hlt : i < l.length
    · have hwp : wrap64 ((i : Int) + 1) = ((i + 1 : Nat) : Int) := by unfold wrap64; omega
      have d0 : decide ((i : Int) < (l.length : Int)) = true := decide_eq_true (by omega)
      have p0 : (0 ≤ (i : Int)) = True := eq_true (by omega)
      have q0 : ((i : Int) < (l.length : Int)) = True := eq_true (by omega)
      obtain ⟨x, hx⟩ : ∃ x, x = l[i] := ⟨_, rfl⟩
      have hmem : x ∈ l := by rw [hx]; exact List.getElem_mem hlt
      obtain ⟨er, hput⟩ := hput x hmem
      obtain ⟨ad, cc, ea, _, hKx, hcc⟩ := Kd.C_get (Kd.C_below hr HB.out) z69 (i : Int) (by omega) (by omega)
      have hxe : (l.getD i z69) = x := by rw [hx]; simp [hlt]
      rw [Int.toNat_natCast] at hKx hcc
      rw [hxe] at hKx
      obtain ⟨A11, c11, A12, c12, ecc, l11, g11, l12, g12⟩ := k69_open hKx
      subst ecc
      have e0 : wr.cell? (ad.add (i * 13)) = some (.string x.f0) := by have := hcc 0 _ rfl; rwa [show i * k69.sz + 0 = i * 13 from rfl] at this
      have e1 : wr.cell? ⟨(ad.add (i * 13)).block, (ad.add (i * 13)).off + 1, none⟩ = some (.int .i64 x.f1) := by have := hcc 1 _ rfl; rw [show i * k69.sz + 1 = i * 13 + 1 from rfl] at this; rw [← add_field _ _ 1 (by omega)]; exact this
      have e2 : wr.cell? ⟨(ad.add (i * 13)).block, (ad.add (i * 13)).off + 2, none⟩ = some (.int .i64 x.f2) := by have := hcc 2 _ rfl; rw [show i * k69.sz + 2 = i * 13 + 2 from rfl] at this; rw [← add_field _ _ 2 (by omega)]; exact this
      have e3 : wr.cell? ⟨(ad.add (i * 13)).block, (ad.add (i * 13)).off + 3, none⟩ = some (.int .i64 x.f3) := by have := hcc 3 _ rfl; rw [show i * k69.sz + 3 = i * 13 + 3 from rfl] at this; rw [← add_field _ _ 3 (by omega)]; exact this
      have e4 : wr.cell? ⟨(ad.add (i * 13)).block, (ad.add (i * 13)).off + 4, none⟩ = some (.string x.f4) := by have := hcc 4 _ rfl; rw [show i * k69.sz + 4 = i * 13 + 4 from rfl] at this; rw [← add_field _ _ 4 (by omega)]; exact this
      have e5 : wr.cell? ⟨(ad.add (i * 13)).block, (ad.add (i * 13)).off + 5, none⟩ = some (.string x.f5) := by have := hcc 5 _ rfl; rw [show i * k69.sz + 5 = i * 13 + 5 from rfl] at this; rw [← add_field _ _ 5 (by omega)]; exact this
      have e6 : wr.cell? ⟨(ad.add (i * 13)).block, (ad.add (i * 13)).off + 6, none⟩ = some (.string x.f6) := by have := hcc 6 _ rfl; rw [show i * k69.sz + 6 = i * 13 + 6 from rfl] at this; rw [← add_field _ _ 6 (by omega)]; exact this
      have e7 : wr.cell? ⟨(ad.add (i * 13)).block, (ad.add (i * 13)).off + 7, none⟩ = some (.bool x.f7) := by have := hcc 7 _ rfl; rw [show i * k69.sz + 7 = i * 13 + 7 from rfl] at this; rw [← add_field _ _ 7 (by omega)]; exact this
      have e8 : wr.cell? ⟨(ad.add (i * 13)).block, (ad.add (i * 13)).off + 8, none⟩ = some (.int .i64 x.f8) := by have := hcc 8 _ rfl; rw [show i * k69.sz + 8 = i * 13 + 8 from rfl] at this; rw [← add_field _ _ 8 (by omega)]; exact this
      have e9 : wr.cell? ⟨(ad.add (i * 13)).block, (ad.add (i * 13)).off + 9, none⟩ = some (.string x.f9) := by have := hcc 9 _ rfl; rw [show i * k69.sz + 9 = i * 13 + 9 from rfl] at this; rw [← add_field _ _ 9 (by omega)]; exact this
      have e10 : wr.cell? ⟨(ad.add (i * 13)).block, (ad.add (i * 13)).off + 10, none⟩ = some (.bool x.f10) := by have := hcc 10 _ rfl; rw [show i * k69.sz + 10 = i * 13 + 10 from rfl] at this; rw [← add_field _ _ 10 (by omega)]; exact this
      have e11 : wr.cell? ⟨(ad.add (i * 13)).block, (ad.add (i * 13)).off + 11, none⟩ = some (.slice A11 x.f11.length c11) := by have := hcc 11 _ rfl; rw [show i * k69.sz + 11 = i * 13 + 11 from rfl] at this; rw [← add_field _ _ 11 (by omega)]; exact this
      have e12 : wr.cell? ⟨(ad.add (i * 13)).block, (ad.add (i * 13)).off + 12, none⟩ = some (.slice A12 x.f12.length c12) := by have := hcc 12 _ rfl; rw [show i * k69.sz + 12 = i * 13 + 12 from rfl] at this; rw [← add_field _ _ 12 (by omega)]; exact this
      subst ea
      have hsum : l.flatMap fs = (l.take i).flatMap fs ++ (fs x ++ (l.drop (i + 1)).flatMap fs) := by
        conv => lhs; rw [← List.take_append_drop i l, List.drop_eq_getElem_cons hlt, ← hx]
        rw [List.flatMap_append, List.flatMap_cons]
      have htake : (l.take (i + 1)).flatMap fs = (l.take i).flatMap fs ++ fs x := by
        rw [List.take_add_one, List.getElem?_eq_getElem hlt, ← hx, List.flatMap_append]
        simp
      have hlen : acc.length + (((l.take i).flatMap fs).length + (fs x).length) < 140737488355328 := by
        have := congrArg List.length hsum
        rw [List.length_append, List.length_append] at this
        omega
      clear hx hxe
      obtain ⟨v', hP⟩ := HP.out
      cases gk with
      | zero => exact absurd HI.out (by omega)
      | succ k1 =>
        go_wp2_with (first | ((with_reducible refine gate_dst (N := 9) rfl ?_); (try (refine gate_guard (by rfl) ?_; dsimp only)); refine box_event ?hg (N := 9) ?hd (cs := #[.string (⟨#[]⟩ : ByteArray), .int .i64 0, .int .i64 0, .int .i64 0, .string (⟨#[]⟩ : ByteArray), .string (⟨#[]⟩ : ByteArray), .string (⟨#[]⟩ : ByteArray), .bool false, .int .i64 0, .string (⟨#[]⟩ : ByteArray), .bool false, .slice none 0 0, .slice none 0 0]) (t := 69) ?hr ?_; (case hd => rfl); (case hg => rfl); (case hr => first | (go_simp; done) | (go_simp; rfl)); intro gb hg9 w9 hbox hb9; have HB9 := Aside0.mk hb9; have BX := Aside0.mk hbox; have HG9 := Aside0.mk hg9; clear hb9 hbox hg9) | ((with_reducible refine gate_store (t := 69) (p := 9) rfl ?_); refine Go.Proofs.Yticnihfjnjliiaa.Sw.store_whole rfl rfl rfl gb 69 _ _ rfl rfl BX.out (by kernel_rfl) rfl rfl ?_; intro wS hS_ hbS_ hkS_; have HBS := Aside0.mk (hbS_ wr.heap.size wr (Nat.le_of_eq HG9.out.symm) HB9.out); have HFS := Aside0.mk ((hkS_ w.heap.size (fun e => absurd (blk_lt HF.out) (by rw [← HG9.out, ← e]; exact Nat.lt_irrefl _))).trans (blk_below HF.out HB9.out)); have BXS := Aside0.mk hS_; clear hS_ hbS_ hkS_ BX) | (go_at_call 36; refine (bp_made88 w.heap.size gb x A11 c11 A12 c12 (fb x) _ HFS.out BXS.out (fun W gq hW hq hpt => hfill x hmem _ W gq (below_then HB.out HB.out.size HBS.out) hW hq hpt A11 c11 A12 c12 l11 (Kd.C_below g11 HBS.out) l12 (Kd.C_below g12 HBS.out))).mono ?_; rintro e w1 ⟨vm, rfl, h2, h4⟩; obtain ⟨Ao, co, eo⟩ := Kd.R_slice h2; subst eo; have hb1 : Below wr.heap.size wr w1 := below_then HBS.out HBS.out.size h4) | (go_at_call 19; refine (bp_bytes k gp num Ao co (fb x) (fs x) er v' (acc ++ (l.take i).flatMap fs) w0 w1 (below_then HB.out HB.out.size hb1) hg ⟨blk_below hP.cell hb1, Kd.R_below hP.own hb1⟩ (Kd.R_reads' h2).2.2 (Kd.R_reads' h2).2.1 hput (by rw [List.length_append]; omega)).mono ?_; rintro e w2 ⟨rfl, v2, h5, h6, h7⟩))
        go_roundg k1
        case measure => exact Nat.lt_succ_self k1
        case rel => exact ⟨i + 1, (by first | rfl | (rw [hwp]) | (simp [hwp]; done)), ⟨by have := HI.out; omega⟩, ⟨v2, by rw [htake, ← List.append_assoc]; exact h5⟩, ⟨HK.out.trans ((Keep5.of_below hb1 gp).trans h6)⟩, ⟨h7⟩, ⟨h6.blk (blk_below HF.out hb1) hgf (by decide)⟩⟩
    · have d0 : decide ((i : Int) < (l.length : Int)) = false := decide_eq_false (by omega)
      obtain ⟨v', hP⟩ := HP.out
      rw [List.take_of_length_le (by omega)] at hP
      go_wp2
      go_end0
      exact ⟨rfl, v', hP, HK.out, HB.out⟩
end Go.Proofs.Yticnihfjnjliiaa.Bp
