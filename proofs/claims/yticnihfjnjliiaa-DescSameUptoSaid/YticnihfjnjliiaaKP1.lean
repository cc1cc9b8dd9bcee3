/- From equal bytes to equal files, where all else is equal: each piece tells its own length. -/
import Derived.Test.YticnihfjnjliiaaKS4
namespace Go.Proofs.Yticnihfjnjliiaa.P1
open Go.RowKit Go.Proofs.Yticnihfjnjliiaa.GDescGrows Go.Proofs.YticnihfjnjliiaaW.PrintWords Go.Proofs.YticnihfjnjliiaaW.PrintLast Go.Proofs.YticnihfjnjliiaaW.PrintMore Go.Proofs.Yticnihfjnjliiaa.Vb Go.Proofs.Yticnihfjnjliiaa.Wr Go.Proofs.Yticnihfjnjliiaa.Wp Go.Proofs.Yticnihfjnjliiaa.Rk Go.Proofs.Yticnihfjnjliiaa.Sp Go.Proofs.Yticnihfjnjliiaa.E1 Go.Proofs.Yticnihfjnjliiaa.R1
set_option linter.unusedVariables false
theorem vb_inj {n m : Nat} {r s : List Int} (hn : n < 18446744073709551616) (hm : m < 18446744073709551616) (h : vb n ++ r = vb m ++ s) : n = m ∧ r = s := by
 have h1 := tr_vb r n 0 (by simpa using hn) (by omega)
 have h2 := tr_vb s m 0 (by simpa using hm) (by omega)
 rw [h, h2] at h1
 have h3 := Option.some.inj h1
 have h4 : (m : Int) = n := by simpa using congrArg Prod.fst h3
 have h5 : n = m := by omega
 subst h5
 exact ⟨rfl, List.append_cancel_left h⟩
theorem fB_inj {num : Int} {a b r s : List Int} (ha : a.length ≤ 1099511627776) (hb : b.length ≤ 1099511627776) (h : fB num a ++ r = fB num b ++ s) : a = b ∧ r = s := by
 unfold fB field worth at h
 simp only [if_neg (by decide : ¬ (2 : Int) = 0), if_neg (by decide : ¬ (2 : Int) = 1), if_neg (by decide : ¬ (2 : Int) = 5)] at h
 simp only [List.append_assoc] at h
 have h1 := List.append_cancel_left h
 obtain ⟨h2, h3⟩ := vb_inj (by omega) (by omega) h1
 exact List.append_inj h3 h2
theorem fN_inj {num n m : Int} {r s : List Int} (h : fN num n ++ r = fN num m ++ s) : IntKind.u64.wrap n = IntKind.u64.wrap m ∧ r = s := by
 unfold fN field worth at h
 simp only [List.append_assoc] at h
 have h1 := List.append_cancel_left h
 have hn := u64_in n
 have hm := u64_in m
 obtain ⟨h2, h3⟩ := vb_inj (by omega) (by omega) h1
 exact ⟨by omega, h3⟩
theorem i64_inj {n m : Int} (hn : (Lit.int .i64 n).wf = true) (hm : (Lit.int .i64 m).wf = true) (h : IntKind.u64.wrap n = IntKind.u64.wrap m) : n = m := by
 have h1 := wf_i64 hn
 have h2 := wf_i64 hm
 rw [wrap_u64, wrap_u64] at h
 omega
theorem bytesOf_inj {s t : ByteArray} (h : bytesOf s = bytesOf t) : s = t := by
 unfold bytesOf at h
 have h1 : s.data.toList = t.data.toList := by
  refine List.map_inj_right (f := fun b : UInt8 => (b.toNat : Int)) (fun a b e => ?_) |>.1 h
  have e' : (a.toNat : Int) = (b.toNat : Int) := e
  exact UInt8.toNat_inj.1 (by omega)
 cases s; cases t
 exact congrArg ByteArray.mk (Array.toList_inj.1 h1)
theorem bRange_inj {a b : S90} (ha : good90 a) (hb : good90 b) (h : bRange a = bRange b) : a = b := by
 unfold bRange at h
 obtain ⟨h1, h2⟩ := fN_inj h
 have h3 : fN 2 (wrap64 (IntKind.u64.wrap (IntKind.u64.wrap a.f1 + 1))) ++ [] = fN 2 (wrap64 (IntKind.u64.wrap (IntKind.u64.wrap b.f1 + 1))) ++ [] := by rw [h2]
 obtain ⟨h4, -⟩ := fN_inj h3
 have e0 := i64_inj ha.1 hb.1 h1
 have w1 := wf_i64 ha.2
 have w2 := wf_i64 hb.2
 have e1 : a.f1 = b.f1 := by
  rw [wrap_u64, wrap_u64] at h4
  unfold wrap64 at h4
  rw [wrap_u64, wrap_u64, wrap_u64, wrap_u64] at h4
  omega
 cases a; cases b
 dsimp only at e0 e1
 subst e0 e1
 rfl
theorem flat_inj {α : Type} (c : α → List Int) : ∀ (l m : List α), l.length = m.length → (∀ a ∈ l, ∀ b ∈ m, ∀ r s, c a ++ r = c b ++ s → a = b ∧ r = s) → ∀ r s, l.flatMap c ++ r = m.flatMap c ++ s → l = m ∧ r = s
 | [], [], _, _, r, s, h => ⟨rfl, by simpa using h⟩
 | [], b :: m, hl, _, _, _, _ => by simp at hl
 | a :: l, [], hl, _, _, _, _ => by simp at hl
 | a :: l, b :: m, hl, H, r, s, h => by
  rw [List.flatMap_cons, List.flatMap_cons, List.append_assoc, List.append_assoc] at h
  obtain ⟨h1, h2⟩ := H a (List.mem_cons_self ..) b (List.mem_cons_self ..) _ _ h
  obtain ⟨h3, h4⟩ := flat_inj c l m (by simpa using hl) (fun x hx y hy => H x (List.mem_cons_of_mem _ hx) y (List.mem_cons_of_mem _ hy)) r s h2
  exact ⟨by rw [h1, h3], h4⟩
theorem flat_bl (c : S37 → List Int) : ∀ (l m : List S37), l.map bl = m.map bl → (∀ a ∈ l, ∀ b ∈ m, bl a = bl b → ∀ r s, c a ++ r = c b ++ s → a = b ∧ r = s) → ∀ r s, l.flatMap c ++ r = m.flatMap c ++ s → l = m ∧ r = s
 | [], [], _, _, r, s, h => ⟨rfl, by simpa using h⟩
 | [], b :: m, hl, _, _, _, _ => by simp at hl
 | a :: l, [], hl, _, _, _, _ => by simp at hl
 | a :: l, b :: m, hl, H, r, s, h => by
  rw [List.map_cons, List.map_cons, List.cons.injEq] at hl
  rw [List.flatMap_cons, List.flatMap_cons, List.append_assoc, List.append_assoc] at h
  obtain ⟨h1, h2⟩ := H a (List.mem_cons_self ..) b (List.mem_cons_self ..) hl.1 _ _ h
  obtain ⟨h3, h4⟩ := flat_bl c l m hl.2 (fun x hx y hy => H x (List.mem_cons_of_mem _ hx) y (List.mem_cons_of_mem _ hy)) r s h2
  exact ⟨by rw [h1, h3], h4⟩
theorem range_piece {num : Int} {l m : List S90} (hl : ∀ y ∈ l, good90 y) (hm : ∀ y ∈ m, good90 y) (hlen : l.length = m.length) (r s : List Int) (h : (l.flatMap fun y => fB num (bRange y)) ++ r = (m.flatMap fun y => fB num (bRange y)) ++ s) : l = m ∧ r = s := by
 refine flat_inj (fun y => fB num (bRange y)) l m hlen (fun a ha b hb r s h => ?_) r s h
 have h1 := len90_ a
 have h2 := len90_ b
 have k1 : bk90 a = 3 := rfl
 have k2 : bk90 b = 3 := rfl
 obtain ⟨h3, h4⟩ := fB_inj (by omega) (by omega) h
 exact ⟨bRange_inj (hl a ha) (hm b hb) h3, h4⟩
theorem text_piece {num : Int} {l m : List ByteArray} (hl : (l.map fun y => y.size + 1).sum ≤ 4294967296) (hm : (m.map fun y => y.size + 1).sum ≤ 4294967296) (hlen : l.length = m.length) (r s : List Int) (h : (l.flatMap fun y => fB num (bytesOf y)) ++ r = (m.flatMap fun y => fB num (bytesOf y)) ++ s) : l = m ∧ r = s := by
 refine flat_inj (fun y => fB num (bytesOf y)) l m hlen (fun a ha b hb r s h => ?_) r s h
 have h1 := sum_le (fun y : ByteArray => y.size + 1) l a ha
 have h2 := sum_le (fun y : ByteArray => y.size + 1) m b hb
 obtain ⟨h3, h4⟩ := fB_inj (by rw [bytesOf_length]; omega) (by rw [bytesOf_length]; omega) h
 exact ⟨bytesOf_inj h3, h4⟩
theorem message_inj : ∀ (x : S37) (y : S37), good37 x → good37 y → bk37 x ≤ 4294967296 → bk37 y ≤ 4294967296 → bl x = bl y → bMessage x = bMessage y → x = y := by
 refine S37.ind fun x ih y gx gy kx ky hbl h => ?_
 rw [good37] at gx gy
 rw [bk37_eq] at kx ky
 rw [bl_eq, bl_eq] at hbl
 injection hbl with e0 e1 e2 e3 e4 e5 e6 e7 e8 e9 e10
 rw [bMessage_eq, bMessage_eq, e0, e1] at h
 have h1 := List.append_cancel_left (List.append_cancel_left h)
 obtain ⟨h2, h3⟩ := flat_bl (fun y => fB 3 (bMessage y)) x.f2 y.f2 e2 (fun a ha b hb hab r s hh => by
  have k1 := sum_le bk37 x.f2 a ha
  have k2 := sum_le bk37 y.f2 b hb
  have l1 := len37_ a (by omega)
  have l2 := len37_ b (by omega)
  obtain ⟨h5, h6⟩ := fB_inj (by omega) (by omega) hh
  exact ⟨ih a ha b (gx.2.2.1.2 a ha) (gy.2.2.1.2 b hb) (by omega) (by omega) hab h5, h6⟩) _ _ h1
 rw [e3] at h3
 have h4 := List.append_cancel_left h3
 obtain ⟨h5, h6⟩ := range_piece gx.2.2.2.2.1.2 gy.2.2.2.2.1.2 (const_len' z90 e4) _ _ h4
 rw [e5, e9, e6] at h6
 have h7 := List.append_cancel_left (List.append_cancel_left (List.append_cancel_left h6))
 obtain ⟨h8, h9⟩ := range_piece gx.2.2.2.2.2.2.2.1.2 gy.2.2.2.2.2.2.2.1.2 (const_len' z90 e7) _ _ h7
 obtain ⟨h10, -⟩ := text_piece (by omega) (by omega) (const_len' (⟨#[]⟩ : ByteArray) e8) _ _ h9
 cases x; cases y
 dsimp only at e0 e1 h2 e3 h5 e5 e6 h8 h10 e9 e10
 subst e0 e1 h2 e3 h5 e5 e6 h8 h10 e9 e10
 rfl
theorem file_inj (x y : S30) (gx : good30 x) (gy : good30 y) (kx : bk30 x ≤ 4294967296) (ky : bk30 y ≤ 4294967296) (h0 : x.f0 = y.f0) (h1 : x.f1 = y.f1) (h2 : x.f2.length = y.f2.length) (h3 : x.f3.length = y.f3.length) (h4 : x.f4.map bl = y.f4.map bl)
 (h5 : x.f5 = y.f5) (h6 : x.f6 = y.f6) (h7 : x.f7 = y.f7) (h8 : x.f8 = y.f8) (h9 : x.f9 = y.f9) (h10 : x.f10 = y.f10) (h : bFile x = bFile y) : x = y := by
 unfold bk30 at kx ky
 unfold bFile at h
 rw [h0, h1] at h
 have k1 := List.append_cancel_left (List.append_cancel_left h)
 obtain ⟨k2, k3⟩ := text_piece (by omega) (by omega) h2 _ _ k1
 obtain ⟨k4, k5⟩ := flat_bl (fun y => fB 4 (bMessage y)) x.f4 y.f4 h4 (fun a ha b hb hab r s hh => by
  have q1 := sum_le bk37 x.f4 a ha
  have q2 := sum_le bk37 y.f4 b hb
  have l1 := len37_ a (by omega)
  have l2 := len37_ b (by omega)
  obtain ⟨p5, p6⟩ := fB_inj (by omega) (by omega) hh
  exact ⟨message_inj a b (gx.2.2.2.2.1.2 a ha) (gy.2.2.2.2.1.2 b hb) (by omega) (by omega) hab p5, p6⟩) _ _ k3
 rw [h5, h6, h7, h9] at k5
 have k6 := List.append_cancel_left (List.append_cancel_left (List.append_cancel_left (List.append_cancel_left k5)))
 obtain ⟨k7, -⟩ := flat_inj (fun y => fN 10 y) x.f3 y.f3 h3 (fun a ha b hb r s hh => by
  obtain ⟨p1, p2⟩ := fN_inj hh
  exact ⟨i64_inj (gx.2.2.2.1.2 a ha) (gy.2.2.2.1.2 b hb) p1, p2⟩) _ _ k6
 cases x; cases y
 dsimp only at h0 h1 k2 k7 k4 h5 h6 h7 h8 h9 h10
 subst h0 h1 k2 k7 k4 h5 h6 h7 h8 h9 h10
 rfl
end Go.Proofs.Yticnihfjnjliiaa.P1
