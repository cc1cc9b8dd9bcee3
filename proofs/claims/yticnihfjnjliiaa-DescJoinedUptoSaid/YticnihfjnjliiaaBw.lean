/- desc.Bytes and desc.Set: what they answer of any files. -/
import Derived.Test.YticnihfjnjliiaaCn
import Derived.Test.YticnihfjnjliiaaDp
namespace Go.Proofs.Yticnihfjnjliiaa.Bw
open Go.RowKit Go.Proofs.Yticnihfjnjliiaa.GDescGrows Go.Proofs.YticnihfjnjliiaaW.PrintWords Go.Proofs.YticnihfjnjliiaaW.PrintLast Go.Proofs.YticnihfjnjliiaaW.PrintMore Go.Proofs.Yticnihfjnjliiaa.Rk Go.Proofs.Yticnihfjnjliiaa.Dp Go.Proofs.Yticnihfjnjliiaa.Vb Go.Proofs.Yticnihfjnjliiaa.Wr Go.Proofs.Yticnihfjnjliiaa.Wp Go.Proofs.Yticnihfjnjliiaa.Sp Go.Proofs.Yticnihfjnjliiaa.Bp Go.Proofs.Yticnihfjnjliiaa.Cn
set_option linter.unusedVariables false
set_option linter.unusedSimpArgs false
set_option maxHeartbeats 8000000 in
set_option maxRecDepth 100000 in
theorem clo37 (gq gx : Nat) (x : S30) (A2 : Option Addr) (c2 : Nat) (A3 : Option Addr) (c3 : Nat) (A4 : Option Addr) (c4 : Nat) (A5 : Option Addr) (c5 : Nat) (A6 : Option Addr) (c6 : Nat) (A7 : Option Addr) (c7 : Nat) (A9 : Option Addr) (c9 : Nat) (A10 : Option Addr) (c10 : Nat) (fb : List Int) (v : Value) (acc : List Int) (w0 w : World) (hx : w.heap[gx]? = some (.cells #[.string x.f0, .string x.f1, .slice A2 x.f2.length c2, .slice A3 x.f3.length c3, .slice A4 x.f4.length c4, .slice A5 x.f5.length c5, .slice A6 x.f6.length c6, .slice A7 x.f7.length c7, .string x.f8, .slice A9 x.f9.length c9, .slice A10 x.f10.length c10] 30 (0, 0)))
    (hfill : Calls Try.prog 38 #[.pointer (some ⟨gq, 0, none⟩), .agg #[.string x.f0, .string x.f1, .slice A2 x.f2.length c2, .slice A3 x.f3.length c3, .slice A4 x.f4.length c4, .slice A5 x.f5.length c5, .slice A6 x.f6.length c6, .slice A7 x.f7.length c7, .string x.f8, .slice A9 x.f9.length c9, .slice A10 x.f10.length c10]] w fun e w' => Put_ w0 w gq v (acc ++ fb) e w') :
    Calls Try.prog 37 #[.pointer (some ⟨gq, 0, none⟩), .pointer (some ⟨gx, 0, none⟩)] w fun e w' => Put_ w0 w gq v (acc ++ fb) e w' := by
  have d0 : _ = some ((.string x.f0) : Value) := (blk_cell hx 0).trans rfl
  have d1 : _ = some ((.string x.f1) : Value) := (blk_cell hx 1).trans rfl
  have d2 : _ = some ((.slice A2 x.f2.length c2) : Value) := (blk_cell hx 2).trans rfl
  have d3 : _ = some ((.slice A3 x.f3.length c3) : Value) := (blk_cell hx 3).trans rfl
  have d4 : _ = some ((.slice A4 x.f4.length c4) : Value) := (blk_cell hx 4).trans rfl
  have d5 : _ = some ((.slice A5 x.f5.length c5) : Value) := (blk_cell hx 5).trans rfl
  have d6 : _ = some ((.slice A6 x.f6.length c6) : Value) := (blk_cell hx 6).trans rfl
  have d7 : _ = some ((.slice A7 x.f7.length c7) : Value) := (blk_cell hx 7).trans rfl
  have d8 : _ = some ((.string x.f8) : Value) := (blk_cell hx 8).trans rfl
  have d9 : _ = some ((.slice A9 x.f9.length c9) : Value) := (blk_cell hx 9).trans rfl
  have d10 : _ = some ((.slice A10 x.f10.length c10) : Value) := (blk_cell hx 10).trans rfl
  go_enter Try.func37, Try.ntmps37
  go_wp2_with (first | (go_at_call 38; refine hfill.mono ?_; rintro e w1 ⟨rfl, h1⟩))
  go_end0
  exact ⟨rfl, h1⟩
set_option maxHeartbeats 8000000 in
set_option maxRecDepth 100000 in
theorem made37 (gx : Nat) (x : S30) (A2 : Option Addr) (c2 : Nat) (A3 : Option Addr) (c3 : Nat) (A4 : Option Addr) (c4 : Nat) (A5 : Option Addr) (c5 : Nat) (A6 : Option Addr) (c6 : Nat) (A7 : Option Addr) (c7 : Nat) (A9 : Option Addr) (c9 : Nat) (A10 : Option Addr) (c10 : Nat) (fb : List Int) (w : World) (hx : w.heap[gx]? = some (.cells #[.string x.f0, .string x.f1, .slice A2 x.f2.length c2, .slice A3 x.f3.length c3, .slice A4 x.f4.length c4, .slice A5 x.f5.length c5, .slice A6 x.f6.length c6, .slice A7 x.f7.length c7, .string x.f8, .slice A9 x.f9.length c9, .slice A10 x.f10.length c10] 30 (0, 0)))
    (hfill : ∀ (W : World) (gq : Nat), Below w.heap.size w W → w.heap.size ≤ gq → Pt_ w.heap.size W gq (.slice none 0 0) [] → Calls Try.prog 38 #[.pointer (some ⟨gq, 0, none⟩), .agg #[.string x.f0, .string x.f1, .slice A2 x.f2.length c2, .slice A3 x.f3.length c3, .slice A4 x.f4.length c4, .slice A5 x.f5.length c5, .slice A6 x.f6.length c6, .slice A7 x.f7.length c7, .string x.f8, .slice A9 x.f9.length c9, .slice A10 x.f10.length c10]] W fun e w' => Put_ w W gq (.slice none 0 0) ([] ++ fb) e w') :
    Calls Try.prog 36 #[.func (.func 37) #[] #[.pointer (some ⟨gx, 0, none⟩)]] w fun e w' => ∃ v, e = .returned v ∧ Kd.R (Kd.int .u8) 5 w' w.heap.size (fun _ => True) v fb ∧ Below w.heap.size w w' := by
  go_enter Try.func36, Try.ntmps36
  go_wp2_with (first | (go_at_call 37; refine (clo37 w.heap.size gx x A2 c2 A3 c3 A4 c4 A5 c5 A6 c6 A7 c7 A9 c9 A10 c10 fb (.slice none 0 0) [] w _ (blk_alloc hx _) (hfill _ _ (below_alloc (Below.refl _ _) _) (Nat.le_refl _) ⟨bp_new _ _, Kd.R_nil _ _ _ _ _⟩)).mono ?_; rintro e w1 ⟨rfl, v, ⟨h1, h2⟩, h3, h4⟩; obtain ⟨Ao, co, eo⟩ := Kd.R_slice h2; subst eo; have hcp : _ = some ((.slice Ao ([] ++ fb).length co) : Value) := (blk_cell h1 0).trans rfl; have hzp := blk_frozen h1 0))
  go_ret
  exact ⟨_, rfl, by simpa using h2, h4⟩
def Bytes_ (x : S30) (w : World) (e : Ending) (w' : World) : Prop := ∃ v, e = .returned (.tuple #[v, .int .i64 0]) ∧ Kd.R (Kd.int .u8) 5 w' w.heap.size (fun _ => True) v (bFile x) ∧ Below w.heap.size w w'
set_option maxHeartbeats 8000000 in
set_option maxRecDepth 100000 in
theorem bytes_ok (x : S30) (g : good30 x) (hb : bk30 x ≤ 4294967296) (w : World) (cs : List Value) (hK : k30.K w x cs) (hd : hL x.f4 ≤ 64) : Calls Try.prog 15 #[.agg cs.toArray] w fun e w' => Bytes_ x w e w' := by
  obtain ⟨A2, c2, A3, c3, A4, c4, A5, c5, A6, c6, A7, c7, A9, c9, A10, c10, rfl, l2, g2, l3, g3, l4, g4, l5, g5, l6, g6, l7, g7, l9, g9, l10, g10⟩ := k30_open hK
  have hdp : decide (dp x.f4 > 64) = false := decide_eq_false (fun h => (dp_le _).1 h hd)
  have HB := Aside0.mk (Below.refl w.heap.size w)
  have HG := Aside0.mk g
  have HD := Aside0.mk hd
  have HL := Aside0.mk hb
  clear g hd hb
  go_enter Try.func15, Try.ntmps15
  go_wp2_with (first | (go_at_call 10; refine (deep_c x HG.out _ [.string x.f0, .string x.f1, .slice A2 x.f2.length c2, .slice A3 x.f3.length c3, .slice A4 x.f4.length c4, .slice A5 x.f5.length c5, .slice A6 x.f6.length c6, .slice A7 x.f7.length c7, .string x.f8, .slice A9 x.f9.length c9, .slice A10 x.f10.length c10] (k30_mk _ x l2 (Kd.C_alloc g2 _) l3 (Kd.C_alloc g3 _) l4 (Kd.C_alloc g4 _) l5 (Kd.C_alloc g5 _) l6 (Kd.C_alloc g6 _) l7 (Kd.C_alloc g7 _) l9 (Kd.C_alloc g9 _) l10 (Kd.C_alloc g10 _))).mono ?_; rintro e w1 ⟨rfl, hb⟩; have BF := Aside0.mk (blk_below (bp_new w (.cells #[.string x.f0, .string x.f1, .slice A2 x.f2.length c2, .slice A3 x.f3.length c3, .slice A4 x.f4.length c4, .slice A5 x.f5.length c5, .slice A6 x.f6.length c6, .slice A7 x.f7.length c7, .string x.f8, .slice A9 x.f9.length c9, .slice A10 x.f10.length c10] 30)) hb); have n0_ := Aside0.mk (below_step (by repeat (first | (with_reducible first | exact HB.out | apply below_alloc | apply pw_below_drewN | apply below_drew1) | exact HB.out)) hb); clear HB; have HB := n0_; clear n0_; clear hb; have d0 : _ = some ((.string x.f0) : Value) := (blk_cell BF.out 0).trans rfl; have d1 : _ = some ((.string x.f1) : Value) := (blk_cell BF.out 1).trans rfl; have d2 : _ = some ((.slice A2 x.f2.length c2) : Value) := (blk_cell BF.out 2).trans rfl; have d3 : _ = some ((.slice A3 x.f3.length c3) : Value) := (blk_cell BF.out 3).trans rfl; have d4 : _ = some ((.slice A4 x.f4.length c4) : Value) := (blk_cell BF.out 4).trans rfl; have d5 : _ = some ((.slice A5 x.f5.length c5) : Value) := (blk_cell BF.out 5).trans rfl; have d6 : _ = some ((.slice A6 x.f6.length c6) : Value) := (blk_cell BF.out 6).trans rfl; have d7 : _ = some ((.slice A7 x.f7.length c7) : Value) := (blk_cell BF.out 7).trans rfl; have d8 : _ = some ((.string x.f8) : Value) := (blk_cell BF.out 8).trans rfl; have d9 : _ = some ((.slice A9 x.f9.length c9) : Value) := (blk_cell BF.out 9).trans rfl; have d10 : _ = some ((.slice A10 x.f10.length c10) : Value) := (blk_cell BF.out 10).trans rfl) | (go_at_call 36; refine (made37 w.heap.size x A2 c2 A3 c3 A4 c4 A5 c5 A6 c6 A7 c7 A9 c9 A10 c10 (bFile x) _ BF.out (fun W gq hW hq hpt => cn_File x HG.out HL.out _ _ (k30_mk _ x l2 (Kd.C_below g2 HB.out) l3 (Kd.C_below g3 HB.out) l4 (Kd.C_below g4 HB.out) l5 (Kd.C_below g5 HB.out) l6 (Kd.C_below g6 HB.out) l7 (Kd.C_below g7 HB.out) l9 (Kd.C_below g9 HB.out) l10 (Kd.C_below g10 HB.out)) W gq _ _ hW hq hpt (by have := HL.out; simp only [List.length_nil]; omega))).mono ?_; rintro e w2 ⟨v, rfl, h2, h3⟩))
  go_ret2
  exact ⟨v, rfl, Kd.R_lower h2 HB.out.size, below_step HB.out h3⟩
def Bad_ (w : World) (e : Ending) (w' : World) : Prop := e = .returned (.tuple #[.slice none 0 0, .int .i64 2]) ∧ Below w.heap.size w w'
set_option maxHeartbeats 8000000 in
set_option maxRecDepth 100000 in
theorem bytes_bad (x : S30) (g : good30 x) (w : World) (cs : List Value) (hK : k30.K w x cs) (hd : ¬ hL x.f4 ≤ 64) : Calls Try.prog 15 #[.agg cs.toArray] w fun e w' => Bad_ w e w' := by
  obtain ⟨A2, c2, A3, c3, A4, c4, A5, c5, A6, c6, A7, c7, A9, c9, A10, c10, rfl, l2, g2, l3, g3, l4, g4, l5, g5, l6, g6, l7, g7, l9, g9, l10, g10⟩ := k30_open hK
  have hdp : decide (dp x.f4 > 64) = true := decide_eq_true ((dp_le _).2 hd)
  have HB := Aside0.mk (Below.refl w.heap.size w)
  have HG := Aside0.mk g
  clear g hd
  go_enter Try.func15, Try.ntmps15
  go_wp2_with (first | (go_at_call 10; refine (deep_c x HG.out _ [.string x.f0, .string x.f1, .slice A2 x.f2.length c2, .slice A3 x.f3.length c3, .slice A4 x.f4.length c4, .slice A5 x.f5.length c5, .slice A6 x.f6.length c6, .slice A7 x.f7.length c7, .string x.f8, .slice A9 x.f9.length c9, .slice A10 x.f10.length c10] (k30_mk _ x l2 (Kd.C_alloc g2 _) l3 (Kd.C_alloc g3 _) l4 (Kd.C_alloc g4 _) l5 (Kd.C_alloc g5 _) l6 (Kd.C_alloc g6 _) l7 (Kd.C_alloc g7 _) l9 (Kd.C_alloc g9 _) l10 (Kd.C_alloc g10 _))).mono ?_; rintro e w1 ⟨rfl, hb⟩; have n0_ := Aside0.mk (below_step (by repeat (first | (with_reducible first | exact HB.out | apply below_alloc | apply pw_below_drewN | apply below_drew1) | exact HB.out)) hb); clear HB; have HB := n0_; clear n0_; clear hb))
  go_ret2
  exact ⟨rfl, HB.out⟩
/-- What Set answers: bytes, or none. -/
def okS (l : List S30) : Prop := ∀ x ∈ l, hL x.f4 ≤ 64
def bSet (l : List S30) : List Int := l.flatMap fun y => fB 1 (bFile y)
theorem bSet_len (l : List S30) (hb : (l.map bk30).sum ≤ 4294967296) : (bSet l).length ≤ 256 * (l.map bk30).sum :=
  flat_len bk30 1 bFile (by decide) l (fun y hy => len30_ y (by have := sum_le bk30 l y hy; omega)) hb
theorem bSet_take (l : List S30) (i : Nat) (h : i < l.length) : bSet (l.take (i + 1)) = bSet (l.take i) ++ fB 1 (bFile l[i]) := by
  unfold bSet
  rw [List.take_add_one, List.getElem?_eq_getElem h, List.flatMap_append]
  simp
def Set_ (l : List S30) (w : World) (e : Ending) (w' : World) : Prop := ∃ v er, e = .returned (.tuple #[v, .int .i64 er]) ∧ Below w.heap.size w w' ∧ ((okS l ∧ er = 0 ∧ Kd.R (Kd.int .u8) 5 w' w.heap.size (fun _ => True) v (bSet l)) ∨ (¬ okS l ∧ er = 2 ∧ v = .slice none 0 0))
set_option maxHeartbeats 8000000 in
set_option maxRecDepth 100000 in
theorem set_c (l : List S30) (hg : ∀ y ∈ l, good30 y) (hb : (l.map bk30).sum ≤ 4294967296) (A : Option Addr) (c : Nat) (w : World) (hr : Kd.C k30 w A l.length l) (hc : l.length ≤ c) :
    Calls Try.prog 12 #[.slice A l.length c] w fun e w' => Set_ l w e w' := by
  have hll : l.length ≤ 4294967296 := Nat.le_trans (len_le_sum bk30 (fun y => by unfold bk30; omega) l) hb
  have HL := Aside0.mk hb
  clear hb
  have HBw := Aside0.mk (Below.refl w.heap.size w)
  go_enter Try.func12, Try.ntmps12
  go_wp2
  go_loopg [11] l.length (fun kq v11 w' => ∃ i : Nat, v11 = .int .i64 (i : Int) ∧ Aside0 (i + kq = l.length) ∧ Aside0 (∃ v', Pt_ w.heap.size w' w.heap.size v' (bSet (l.take i))) ∧ Aside0 (Below w.heap.size w w') ∧ Aside0 (okS (l.take i)))
  case atStart =>
    exact ⟨0, rfl, ⟨by omega⟩, ⟨_, ⟨bp_new _ _, Kd.R_nil _ _ _ _ _⟩⟩, ⟨below_alloc HBw.out _⟩, ⟨fun x hx => by simp at hx⟩⟩
  case round =>
    obtain ⟨i, rfl, HI, HP, HB, HO⟩ := hrel
    by_cases hlt : i < l.length
    · have hwp : wrap64 ((i : Int) + 1) = ((i + 1 : Nat) : Int) := by unfold wrap64; omega
      have d0 : decide ((i : Int) < (l.length : Int)) = true := decide_eq_true (by omega)
      have p0 : (0 ≤ (i : Int)) = True := eq_true (by omega)
      have q0 : ((i : Int) < (l.length : Int)) = True := eq_true (by omega)
      obtain ⟨x, hx⟩ : ∃ x, x = l[i] := ⟨_, rfl⟩
      have hmem : x ∈ l := by rw [hx]; exact List.getElem_mem hlt
      obtain ⟨ad, cc, ea, _, hKx, hcc⟩ := Kd.C_get (Kd.C_below hr HB.out) z30 (i : Int) (by omega) (by omega)
      have hxe : (l.getD i z30) = x := by rw [hx]; simp [hlt]
      rw [Int.toNat_natCast] at hKx hcc
      rw [hxe] at hKx
      obtain ⟨A2, c2, A3, c3, A4, c4, A5, c5, A6, c6, A7, c7, A9, c9, A10, c10, ecc, l2, g2, l3, g3, l4, g4, l5, g5, l6, g6, l7, g7, l9, g9, l10, g10⟩ := k30_open hKx
      subst ecc
      have e0 : wr.cell? (ad.add (i * 11)) = some (.string x.f0) := by have := hcc 0 _ rfl; rwa [show i * k30.sz + 0 = i * 11 from rfl] at this
      have e1 : wr.cell? ⟨(ad.add (i * 11)).block, (ad.add (i * 11)).off + 1, none⟩ = some (.string x.f1) := by have := hcc 1 _ rfl; rw [show i * k30.sz + 1 = i * 11 + 1 from rfl] at this; rw [← add_field _ _ 1 (by omega)]; exact this
      have e2 : wr.cell? ⟨(ad.add (i * 11)).block, (ad.add (i * 11)).off + 2, none⟩ = some (.slice A2 x.f2.length c2) := by have := hcc 2 _ rfl; rw [show i * k30.sz + 2 = i * 11 + 2 from rfl] at this; rw [← add_field _ _ 2 (by omega)]; exact this
      have e3 : wr.cell? ⟨(ad.add (i * 11)).block, (ad.add (i * 11)).off + 3, none⟩ = some (.slice A3 x.f3.length c3) := by have := hcc 3 _ rfl; rw [show i * k30.sz + 3 = i * 11 + 3 from rfl] at this; rw [← add_field _ _ 3 (by omega)]; exact this
      have e4 : wr.cell? ⟨(ad.add (i * 11)).block, (ad.add (i * 11)).off + 4, none⟩ = some (.slice A4 x.f4.length c4) := by have := hcc 4 _ rfl; rw [show i * k30.sz + 4 = i * 11 + 4 from rfl] at this; rw [← add_field _ _ 4 (by omega)]; exact this
      have e5 : wr.cell? ⟨(ad.add (i * 11)).block, (ad.add (i * 11)).off + 5, none⟩ = some (.slice A5 x.f5.length c5) := by have := hcc 5 _ rfl; rw [show i * k30.sz + 5 = i * 11 + 5 from rfl] at this; rw [← add_field _ _ 5 (by omega)]; exact this
      have e6 : wr.cell? ⟨(ad.add (i * 11)).block, (ad.add (i * 11)).off + 6, none⟩ = some (.slice A6 x.f6.length c6) := by have := hcc 6 _ rfl; rw [show i * k30.sz + 6 = i * 11 + 6 from rfl] at this; rw [← add_field _ _ 6 (by omega)]; exact this
      have e7 : wr.cell? ⟨(ad.add (i * 11)).block, (ad.add (i * 11)).off + 7, none⟩ = some (.slice A7 x.f7.length c7) := by have := hcc 7 _ rfl; rw [show i * k30.sz + 7 = i * 11 + 7 from rfl] at this; rw [← add_field _ _ 7 (by omega)]; exact this
      have e8 : wr.cell? ⟨(ad.add (i * 11)).block, (ad.add (i * 11)).off + 8, none⟩ = some (.string x.f8) := by have := hcc 8 _ rfl; rw [show i * k30.sz + 8 = i * 11 + 8 from rfl] at this; rw [← add_field _ _ 8 (by omega)]; exact this
      have e9 : wr.cell? ⟨(ad.add (i * 11)).block, (ad.add (i * 11)).off + 9, none⟩ = some (.slice A9 x.f9.length c9) := by have := hcc 9 _ rfl; rw [show i * k30.sz + 9 = i * 11 + 9 from rfl] at this; rw [← add_field _ _ 9 (by omega)]; exact this
      have e10 : wr.cell? ⟨(ad.add (i * 11)).block, (ad.add (i * 11)).off + 10, none⟩ = some (.slice A10 x.f10.length c10) := by have := hcc 10 _ rfl; rw [show i * k30.sz + 10 = i * 11 + 10 from rfl] at this; rw [← add_field _ _ 10 (by omega)]; exact this
      subst ea
      have HX := Aside0.mk (hg x hmem)
      have HBX := Aside0.mk (Nat.le_trans (sum_le bk30 l x hmem) HL.out)
      have htake := Aside0.mk (bSet_take l i hlt)
      rw [← hx] at htake
      have hlen : Aside0 ((bSet (l.take i)).length + (fB 1 (bFile x)).length < 140737488355328) := ⟨by
        have h1 := congrArg List.length htake.out
        have h2 := bSet_len (l.take (i + 1)) (by
          have h3 : (l.map bk30).sum = ((l.take (i + 1)).map bk30).sum + ((l.drop (i + 1)).map bk30).sum := by rw [← List.sum_append, ← List.map_append, List.take_append_drop]
          have := HL.out
          omega)
        have h3 : (l.map bk30).sum = ((l.take (i + 1)).map bk30).sum + ((l.drop (i + 1)).map bk30).sum := by rw [← List.sum_append, ← List.map_append, List.take_append_drop]
        have := HL.out
        rw [List.length_append] at h1
        omega⟩
      have hok : hL x.f4 ≤ 64 → Aside0 (okS (l.take (i + 1))) := fun h => ⟨fun y hy => by
        rw [List.take_add_one, List.getElem?_eq_getElem hlt, ← hx, Option.toList_some] at hy
        rcases List.mem_append.1 hy with hy | hy
        · exact HO.out y hy
        · rw [List.mem_singleton.1 hy]; exact h⟩
      have hnok : ¬ hL x.f4 ≤ 64 → Aside0 (¬ okS l) := fun h => ⟨fun h2 => h (h2 x hmem)⟩
      clear hx hxe
      obtain ⟨v', hP⟩ := HP.out
      clear HP
      have HP := Aside0.mk hP
      clear hP
      cases gk with
      | zero => exact absurd HI.out (by omega)
      | succ k1 =>
        by_cases h64 : hL x.f4 ≤ 64
        · replace hok := hok h64
          clear hnok
          have H64 := Aside0.mk h64
          clear h64
          go_wp2_with (first | ((with_reducible refine gate_dst (N := 6) rfl ?_); (try (refine gate_guard (by rfl) ?_; dsimp only)); refine box_event ?hg (N := 6) ?hd (cs := #[.string (⟨#[]⟩ : ByteArray), .string (⟨#[]⟩ : ByteArray), .slice none 0 0, .slice none 0 0, .slice none 0 0, .slice none 0 0, .slice none 0 0, .slice none 0 0, .string (⟨#[]⟩ : ByteArray), .slice none 0 0, .slice none 0 0]) (t := 30) ?hr ?_; (case hd => rfl); (case hg => rfl); (case hr => first | (go_simp; done) | (go_simp; rfl)); intro gb hg9 w9 hbox hb9; have HB9 := Aside0.mk hb9; have BX := Aside0.mk hbox; have HG9 := Aside0.mk hg9; clear hb9 hbox hg9) | ((with_reducible refine gate_store (t := 30) (p := 6) rfl ?_); refine Go.Proofs.Yticnihfjnjliiaa.Sw.store_whole rfl rfl rfl gb 30 _ _ rfl rfl BX.out (by kernel_rfl) rfl rfl ?_; intro wS hS_ hbS_ hkS_; have HBS := Aside0.mk (hbS_ wr.heap.size wr (Nat.le_of_eq HG9.out.symm) HB9.out); have BXS := Aside0.mk hS_; clear hS_ hbS_ hkS_ BX; have s0 : _ = some ((.string x.f0) : Value) := (blk_cell BXS.out 0).trans rfl; have s1 : _ = some ((.string x.f1) : Value) := (blk_cell BXS.out 1).trans rfl; have s2 : _ = some ((.slice A2 x.f2.length c2) : Value) := (blk_cell BXS.out 2).trans rfl; have s3 : _ = some ((.slice A3 x.f3.length c3) : Value) := (blk_cell BXS.out 3).trans rfl; have s4 : _ = some ((.slice A4 x.f4.length c4) : Value) := (blk_cell BXS.out 4).trans rfl; have s5 : _ = some ((.slice A5 x.f5.length c5) : Value) := (blk_cell BXS.out 5).trans rfl; have s6 : _ = some ((.slice A6 x.f6.length c6) : Value) := (blk_cell BXS.out 6).trans rfl; have s7 : _ = some ((.slice A7 x.f7.length c7) : Value) := (blk_cell BXS.out 7).trans rfl; have s8 : _ = some ((.string x.f8) : Value) := (blk_cell BXS.out 8).trans rfl; have s9 : _ = some ((.slice A9 x.f9.length c9) : Value) := (blk_cell BXS.out 9).trans rfl; have s10 : _ = some ((.slice A10 x.f10.length c10) : Value) := (blk_cell BXS.out 10).trans rfl) | (go_at_call 15; refine (bytes_ok x HX.out HBX.out _ [.string x.f0, .string x.f1, .slice A2 x.f2.length c2, .slice A3 x.f3.length c3, .slice A4 x.f4.length c4, .slice A5 x.f5.length c5, .slice A6 x.f6.length c6, .slice A7 x.f7.length c7, .string x.f8, .slice A9 x.f9.length c9, .slice A10 x.f10.length c10] (k30_mk _ x l2 (Kd.C_below g2 HBS.out) l3 (Kd.C_below g3 HBS.out) l4 (Kd.C_below g4 HBS.out) l5 (Kd.C_below g5 HBS.out) l6 (Kd.C_below g6 HBS.out) l7 (Kd.C_below g7 HBS.out) l9 (Kd.C_below g9 HBS.out) l10 (Kd.C_below g10 HBS.out)) H64.out).mono ?_; rintro e w1 ⟨vm, rfl, h2, h3⟩; obtain ⟨Ao, co, eo⟩ := Kd.R_slice h2; subst eo; have hb1 := Aside0.mk (below_then HBS.out HBS.out.size h3); have hR1 := Aside0.mk h2; clear h2 h3) | (go_at_call 19; refine (bp_bytes 11 w.heap.size 1 Ao co (bFile x) (fB 1 (bFile x)) 0 v' (bSet (l.take i)) w w1 (below_then HB.out HB.out.size hb1.out) (Nat.le_refl _) ⟨blk_below HP.out.cell hb1.out, Kd.R_below HP.out.own hb1.out⟩ (Kd.R_reads' hR1.out).2.2 (Kd.R_reads' hR1.out).2.1 (put_B _ (by decide) (by have h1 := len30_ x HBX.out; have := HBX.out; omega)) hlen.out).mono ?_; rintro e w2 ⟨rfl, v2, h5, h6, h7⟩))
          go_roundg k1
          case measure => exact Nat.lt_succ_self k1
          case rel => exact ⟨i + 1, (by first | rfl | (rw [hwp]) | (simp [hwp]; done)), ⟨by have := HI.out; omega⟩, ⟨v2, by rw [htake.out]; exact h5⟩, ⟨h7⟩, hok⟩
        · replace hnok := hnok h64
          clear hok
          have H64 := Aside0.mk h64
          clear h64
          go_wp2_with (first | ((with_reducible refine gate_dst (N := 6) rfl ?_); (try (refine gate_guard (by rfl) ?_; dsimp only)); refine box_event ?hg (N := 6) ?hd (cs := #[.string (⟨#[]⟩ : ByteArray), .string (⟨#[]⟩ : ByteArray), .slice none 0 0, .slice none 0 0, .slice none 0 0, .slice none 0 0, .slice none 0 0, .slice none 0 0, .string (⟨#[]⟩ : ByteArray), .slice none 0 0, .slice none 0 0]) (t := 30) ?hr ?_; (case hd => rfl); (case hg => rfl); (case hr => first | (go_simp; done) | (go_simp; rfl)); intro gb hg9 w9 hbox hb9; have HB9 := Aside0.mk hb9; have BX := Aside0.mk hbox; have HG9 := Aside0.mk hg9; clear hb9 hbox hg9) | ((with_reducible refine gate_store (t := 30) (p := 6) rfl ?_); refine Go.Proofs.Yticnihfjnjliiaa.Sw.store_whole rfl rfl rfl gb 30 _ _ rfl rfl BX.out (by kernel_rfl) rfl rfl ?_; intro wS hS_ hbS_ hkS_; have HBS := Aside0.mk (hbS_ wr.heap.size wr (Nat.le_of_eq HG9.out.symm) HB9.out); have BXS := Aside0.mk hS_; clear hS_ hbS_ hkS_ BX; have s0 : _ = some ((.string x.f0) : Value) := (blk_cell BXS.out 0).trans rfl; have s1 : _ = some ((.string x.f1) : Value) := (blk_cell BXS.out 1).trans rfl; have s2 : _ = some ((.slice A2 x.f2.length c2) : Value) := (blk_cell BXS.out 2).trans rfl; have s3 : _ = some ((.slice A3 x.f3.length c3) : Value) := (blk_cell BXS.out 3).trans rfl; have s4 : _ = some ((.slice A4 x.f4.length c4) : Value) := (blk_cell BXS.out 4).trans rfl; have s5 : _ = some ((.slice A5 x.f5.length c5) : Value) := (blk_cell BXS.out 5).trans rfl; have s6 : _ = some ((.slice A6 x.f6.length c6) : Value) := (blk_cell BXS.out 6).trans rfl; have s7 : _ = some ((.slice A7 x.f7.length c7) : Value) := (blk_cell BXS.out 7).trans rfl; have s8 : _ = some ((.string x.f8) : Value) := (blk_cell BXS.out 8).trans rfl; have s9 : _ = some ((.slice A9 x.f9.length c9) : Value) := (blk_cell BXS.out 9).trans rfl; have s10 : _ = some ((.slice A10 x.f10.length c10) : Value) := (blk_cell BXS.out 10).trans rfl) | (go_at_call 15; refine (bytes_bad x HX.out _ [.string x.f0, .string x.f1, .slice A2 x.f2.length c2, .slice A3 x.f3.length c3, .slice A4 x.f4.length c4, .slice A5 x.f5.length c5, .slice A6 x.f6.length c6, .slice A7 x.f7.length c7, .string x.f8, .slice A9 x.f9.length c9, .slice A10 x.f10.length c10] (k30_mk _ x l2 (Kd.C_below g2 HBS.out) l3 (Kd.C_below g3 HBS.out) l4 (Kd.C_below g4 HBS.out) l5 (Kd.C_below g5 HBS.out) l6 (Kd.C_below g6 HBS.out) l7 (Kd.C_below g7 HBS.out) l9 (Kd.C_below g9 HBS.out) l10 (Kd.C_below g10 HBS.out)) H64.out).mono ?_; rintro e w1 ⟨rfl, h3⟩; have hb1 := Aside0.mk (below_then HBS.out HBS.out.size h3); clear h3))
          go_ret2
          exact ⟨_, 2, rfl, below_then HB.out HB.out.size hb1.out, .inr ⟨hnok.out, rfl, rfl⟩⟩
    · have d0 : decide ((i : Int) < (l.length : Int)) = false := decide_eq_false (by omega)
      obtain ⟨v', hP⟩ := HP.out
      rw [List.take_of_length_le (by omega)] at hP
      have HO' : Aside0 (okS l) := ⟨fun x hx => HO.out x (by rw [List.take_of_length_le (by omega)]; exact hx)⟩
      clear HP
      have HP := Aside0.mk hP
      clear hP
      have hcp : _ = some (v' : Value) := (blk_cell HP.out.cell 0).trans rfl
      have hzp := blk_frozen HP.out.cell 0
      go_wp2
      go_ret2
      exact ⟨v', 0, rfl, HB.out, .inl ⟨HO'.out, rfl, HP.out.own⟩⟩
end Go.Proofs.Yticnihfjnjliiaa.Bw
