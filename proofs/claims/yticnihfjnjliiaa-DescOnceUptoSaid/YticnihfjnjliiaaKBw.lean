/- desc.Bytes and desc.Set: what they answer of any files. -/
import Derived.Test.YticnihfjnjliiaaKCn
import Derived.Test.YticnihfjnjliiaaKDp
namespace Go.Proofs.Yticnihfjnjliiaa.Bw
open Go.RowKit Go.Proofs.Yticnihfjnjliiaa.GDescGrows Go.Proofs.YticnihfjnjliiaaW.PrintWords Go.Proofs.YticnihfjnjliiaaW.PrintLast Go.Proofs.YticnihfjnjliiaaW.PrintMore Go.Proofs.Yticnihfjnjliiaa.Rk Go.Proofs.Yticnihfjnjliiaa.Dp Go.Proofs.Yticnihfjnjliiaa.Vb Go.Proofs.Yticnihfjnjliiaa.Wr Go.Proofs.Yticnihfjnjliiaa.Wp Go.Proofs.Yticnihfjnjliiaa.Sp Go.Proofs.Yticnihfjnjliiaa.Bp Go.Proofs.Yticnihfjnjliiaa.Cn
set_option linter.unusedVariables false
set_option linter.unusedSimpArgs false
set_option maxHeartbeats 8000000 in
set_option maxRecDepth 100000 in
theorem clo37 (gq gx : Nat) (x : S30) (A2 : Option Addr) (c2 : Nat) (A3 : Option Addr) (c3 : Nat) (A4 : Option Addr) (c4 : Nat) (A5 : Option Addr) (c5 : Nat) (A6 : Option Addr) (c6 : Nat) (A7 : Option Addr) (c7 : Nat) (A9 : Option Addr) (c9 : Nat) (A10 : Option Addr) (c10 : Nat) (fb : List Int) (v : Value) (acc : List Int) (w0 w : World) (hx : w.heap[gx]? = some (.cells #[.string x.f0, .string x.f1, .slice A2 x.f2.length c2, .slice A3 x.f3.length c3, .slice A4 x.f4.length c4, .slice A5 x.f5.length c5, .slice A6 x.f6.length c6, .slice A7 x.f7.length c7, .string x.f8, .slice A9 x.f9.length c9, .slice A10 x.f10.length c10] 30 (0, 0)))
    (hfill : Calls Try.prog 38 #[.pointer (some ⟨gq, 0, none⟩), .agg #[.string x.f0, .string x.f1, .slice A2 x.f2.length c2, .slice A3 x.f3.length c3, .slice A4 x.f4.length c4, .slice A5 x.f5.length c5, .slice A6 x.f6.length c6, .slice A7 x.f7.length c7, .string x.f8, .slice A9 x.f9.length c9, .slice A10 x.f10.length c10]] w fun e w' => Put_ w0 w gq v (acc ++ fb) e w') :
    Calls Try.prog 37 #[.pointer (some ⟨gq, 0, none⟩), .pointer (some ⟨gx, 0, none⟩)] w fun e w' => Put_ w0 w gq v (acc ++ fb) e w' := by
  have d0 : _ = some ((.string x.f0) : Value) := (blk_cell hx 0).trans rfl
  have d1 : _ = some ((.string x.f1) : Value) := (blk_cell hx 1).trans rfl
  have d2 : _ = some ((.slice A2 x.f2.length c2) : Value) := (blk_cell hx 2).trans rfl
  have d3 : _ = some ((.slice A3 x.f3.length c3) : Value) := (blk_cell hx 3).trans rfl
  have d4 : _ = some ((.slice A4 x.f4.length c4) : Value) := (blk_cell hx 4).trans rfl
  have d5 : _ = some ((.slice A5 x.f5.length c5) : Value) := (blk_cell hx 5).trans rfl
  have d6 : _ = some ((.slice A6 x.f6.length c6) : Value) := (blk_cell hx 6).trans rfl
  have d7 : _ = some ((.slice A7 x.f7.length c7) : Value) := (blk_cell hx 7).trans rfl
  have d8 : _ = some ((.string x.f8) : Value) := (blk_cell hx 8).trans rfl
  have d9 : _ = some ((.slice A9 x.f9.length c9) : Value) := (blk_cell hx 9).trans rfl
  have d10 : _ = some ((.slice A10 x.f10.length c10) : Value) := (blk_cell hx 10).trans rfl
  go_enter Try.func37, Try.ntmps37
  go_wp2_with (first | (go_at_call 38; refine hfill.mono ?_; rintro e w1 ⟨rfl, h1⟩))
  go_end0
  exact ⟨rfl, h1⟩
set_option maxHeartbeats 8000000 in
set_option maxRecDepth 100000 in
theorem made37 (gx : Nat) (x : S30) (A2 : Option Addr) (c2 : Nat) (A3 : Option Addr) (c3 : Nat) (A4 : Option Addr) (c4 : Nat) (A5 : Option Addr) (c5 : Nat) (A6 : Option Addr) (c6 : Nat) (A7 : Option Addr) (c7 : Nat) (A9 : Option Addr) (c9 : Nat) (A10 : Option Addr) (c10 : Nat) (fb : List Int) (w : World) (hx : w.heap[gx]? = some (.cells #[.string x.f0, .string x.f1, .slice A2 x.f2.length c2, .slice A3 x.f3.length c3, .slice A4 x.f4.length c4, .slice A5 x.f5.length c5, .slice A6 x.f6.length c6, .slice A7 x.f7.length c7, .string x.f8, .slice A9 x.f9.length c9, .slice A10 x.f10.length c10] 30 (0, 0)))
    (hfill : ∀ (W : World) (gq : Nat), Below w.heap.size w W → w.heap.size ≤ gq → Pt_ w.heap.size W gq (.slice none 0 0) [] → Calls Try.prog 38 #[.pointer (some ⟨gq, 0, none⟩), .agg #[.string x.f0, .string x.f1, .slice A2 x.f2.length c2, .slice A3 x.f3.length c3, .slice A4 x.f4.length c4, .slice A5 x.f5.length c5, .slice A6 x.f6.length c6, .slice A7 x.f7.length c7, .string x.f8, .slice A9 x.f9.length c9, .slice A10 x.f10.length c10]] W fun e w' => Put_ w W gq (.slice none 0 0) ([] ++ fb) e w') :
    Calls Try.prog 36 #[.func (.func 37) #[] #[.pointer (some ⟨gx, 0, none⟩)]] w fun e w' => ∃ v, e = .returned v ∧ Kd.R (Kd.int .u8) 5 w' w.heap.size (fun _ => True) v fb ∧ Below w.heap.size w w' := by
  go_enter Try.func36, Try.ntmps36
  go_wp2_with (first | (go_at_call 37; refine (clo37 w.heap.size gx x A2 c2 A3 c3 A4 c4 A5 c5 A6 c6 A7 c7 A9 c9 A10 c10 fb (.slice none 0 0) [] w _ (blk_alloc hx _) (hfill _ _ (below_alloc (Below.refl _ _) _) (Nat.le_refl _) ⟨bp_new _ _, Kd.R_nil _ _ _ _ _⟩)).mono ?_; rintro e w1 ⟨rfl, v, ⟨h1, h2⟩, h3, h4⟩; obtain ⟨Ao, co, eo⟩ := Kd.R_slice h2; subst eo; have hcp : _ = some ((.slice Ao ([] ++ fb).length co) : Value) := (blk_cell h1 0).trans rfl; have hzp := blk_frozen h1 0))
  go_ret
  exact ⟨_, rfl, by simpa using h2, h4⟩
def Bytes_ (x : S30) (w : World) (e : Ending) (w' : World) : Prop := ∃ v, e = .returned (.tuple #[v, .int .i64 0]) ∧ Kd.R (Kd.int .u8) 5 w' w.heap.size (fun _ => True) v (bFile x) ∧ Below w.heap.size w w'
set_option maxHeartbeats 8000000 in
set_option maxRecDepth 100000 in
theorem bytes_ok (x : S30) (g : good30 x) (hb : bk30 x ≤ 4294967296) (w : World) (cs : List Value) (hK : k30.K w x cs) (hd : hL x.f4 ≤ 64) : Calls Try.prog 15 #[.agg cs.toArray] w fun e w' => Bytes_ x w e w' := by
  obtain ⟨A2, c2, A3, c3, A4, c4, A5, c5, A6, c6, A7, c7, A9, c9, A10, c10, rfl, l2, g2, l3, g3, l4, g4, l5, g5, l6, g6, l7, g7, l9, g9, l10, g10⟩ := k30_open hK
  have hdp : decide (dp x.f4 > 64) = false := decide_eq_false (fun h => (dp_le _).1 h hd)
  have HB := Aside0.mk (Below.refl w.heap.size w)
  have HG := Aside0.mk g
  have HD := Aside0.mk hd
  have HL := Aside0.mk hb
  clear g hd hb
  go_enter Try.func15, Try.ntmps15
  go_wp2_with (first | (go_at_call 10; refine (deep_c x HG.out _ [.string x.f0, .string x.f1, .slice A2 x.f2.length c2, .slice A3 x.f3.length c3, .slice A4 x.f4.length c4, .slice A5 x.f5.length c5, .slice A6 x.f6.length c6, .slice A7 x.f7.length c7, .string x.f8, .slice A9 x.f9.length c9, .slice A10 x.f10.length c10] (k30_mk _ x l2 (Kd.C_alloc g2 _) l3 (Kd.C_alloc g3 _) l4 (Kd.C_alloc g4 _) l5 (Kd.C_alloc g5 _) l6 (Kd.C_alloc g6 _) l7 (Kd.C_alloc g7 _) l9 (Kd.C_alloc g9 _) l10 (Kd.C_alloc g10 _))).mono ?_; rintro e w1 ⟨rfl, hb⟩; have BF := Aside0.mk (blk_below (bp_new w (.cells #[.string x.f0, .string x.f1, .slice A2 x.f2.length c2, .slice A3 x.f3.length c3, .slice A4 x.f4.length c4, .slice A5 x.f5.length c5, .slice A6 x.f6.length c6, .slice A7 x.f7.length c7, .string x.f8, .slice A9 x.f9.length c9, .slice A10 x.f10.length c10] 30)) hb); have n0_ := Aside0.mk (below_step (by repeat (first | (with_reducible first | exact HB.out | apply below_alloc | apply pw_below_drewN | apply below_drew1) | exact HB.out)) hb); clear HB; have HB := n0_; clear n0_; clear hb; have d0 : _ = some ((.string x.f0) : Value) := (blk_cell BF.out 0).trans rfl; have d1 : _ = some ((.string x.f1) : Value) := (blk_cell BF.out 1).trans rfl; have d2 : _ = some ((.slice A2 x.f2.length c2) : Value) := (blk_cell BF.out 2).trans rfl; have d3 : _ = some ((.slice A3 x.f3.length c3) : Value) := (blk_cell BF.out 3).trans rfl; have d4 : _ = some ((.slice A4 x.f4.length c4) : Value) := (blk_cell BF.out 4).trans rfl; have d5 : _ = some ((.slice A5 x.f5.length c5) : Value) := (blk_cell BF.out 5).trans rfl; have d6 : _ = some ((.slice A6 x.f6.length c6) : Value) := (blk_cell BF.out 6).trans rfl; have d7 : _ = some ((.slice A7 x.f7.length c7) : Value) := (blk_cell BF.out 7).trans rfl; have d8 : _ = some ((.string x.f8) : Value) := (blk_cell BF.out 8).trans rfl; have d9 : _ = some ((.slice A9 x.f9.length c9) : Value) := (blk_cell BF.out 9).trans rfl; have d10 : _ = some ((.slice A10 x.f10.length c10) : Value) := (blk_cell BF.out 10).trans rfl) | (go_at_call 36; refine (made37 w.heap.size x A2 c2 A3 c3 A4 c4 A5 c5 A6 c6 A7 c7 A9 c9 A10 c10 (bFile x) _ BF.out (fun W gq hW hq hpt => cn_File x HG.out HL.out _ _ (k30_mk _ x l2 (Kd.C_below g2 HB.out) l3 (Kd.C_below g3 HB.out) l4 (Kd.C_below g4 HB.out) l5 (Kd.C_below g5 HB.out) l6 (Kd.C_below g6 HB.out) l7 (Kd.C_below g7 HB.out) l9 (Kd.C_below g9 HB.out) l10 (Kd.C_below g10 HB.out)) W gq _ _ hW hq hpt (by have := HL.out; simp only [List.length_nil]; omega))).mono ?_; rintro e w2 ⟨v, rfl, h2, h3⟩))
  go_ret2
  exact ⟨v, rfl, Kd.R_lower h2 HB.out.size, below_step HB.out h3⟩
def Bad_ (w : World) (e : Ending) (w' : World) : Prop := e = .returned (.tuple #[.slice none 0 0, .int .i64 2]) ∧ Below w.heap.size w w'
/-- What Set answers: bytes, or none. -/
def okS (l : List S30) : Prop := ∀ x ∈ l, hL x.f4 ≤ 64
def bSet (l : List S30) : List Int := l.flatMap fun y => fB 1 (bFile y)
def Set_ (l : List S30) (w : World) (e : Ending) (w' : World) : Prop := ∃ v er, e = .returned (.tuple #[v, .int .i64 er]) ∧ Below w.heap.size w w' ∧ ((okS l ∧ er = 0 ∧ Kd.R (Kd.int .u8) 5 w' w.heap.size (fun _ => True) v (bSet l)) ∨ (¬ okS l ∧ er = 2 ∧ v = .slice none 0 0))
end Go.Proofs.Yticnihfjnjliiaa.Bw
