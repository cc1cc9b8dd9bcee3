/- The reference's fields. -/
import Derived.Test.YtheoafenehckbaaQA4
import Derived.Test.YtheoafenehckbaaQSh
import Derived.LoopN
import Derived.RegionTactic
namespace Go.Proofs.Ytheoafenehckbaa.R1
open Go.RowKit GUndescBack YtheoafenehckbaaW.PrintWords YtheoafenehckbaaW.PrintLast YtheoafenehckbaaW.PrintMore Vb Wr Wp Rk Sp
set_option linter.unusedVariables false
set_option linter.unusedSimpArgs false
theorem new1_ (w:World) (o:Obj):(w.alloc o).heap[w.heap.size]?=some o:=by simp [World.alloc,-World.alloc_eq]
def field_t.T8:Bool × List (List Nat × List Nat):=(true,[([],[]),([0],[0]),([1],[1]),([],[]),([3],[3]),([4,2],[4]),([],[]),([6],[6]),([7,5],[7]),([],[]),([9],[9]),([10,8],[10]),([],[]),([12],[12]),([13,11],[13]),([],[]),([15],[15]),([16,14],[16]),([],[]),([],[]),([19],[19]),([20,17],[20]),([],[]),([],[]),([23],[23]),([24,21],[24]),([],[]),([26],[26]),([27,25],[27]),([],[]),([29],[29]),([2,5,8,11,14,17,18,21,22,25,28,30],[2,5,8,11,14,17,18,21,22,25,28,30]),([31,28],[31]),([32,32,0,1,2,3,4,5,6,7,8,9,10,11,12,13,14,15,16,17,18,19,20,21,22,23,24,25,26,27,28,29,30,31,32],[32])])
def field_t.B8:List Nat:=[0,1,3,0,8,31,0,64,255,0,512,2047,0,4096,16383,0,32768,131071,0,0,524288,1835007,0,0,8388608,29097983,0,67108864,263979007,0,536870912,2147483647,4294967295,8589934591]
theorem field_t.tab8:rtab .any (opsOf Try.f54 8)=field_t.T8:=by kernel_rfl
theorem field_t.bits8:waitsOk field_t.T8.2 field_t.B8=true:=by kernel_rfl
set_option maxHeartbeats 8000000 in
set_option maxRecDepth 100000 in
theorem field_c (x:S88) (g:good88 x) (hb0:bk88 x≤4294967296) (w:World) (cs:List Value) (hK:k88.K w x cs):Calls Try.prog 54 #[.agg cs.toArray] w fun e w'=>Ret_ (bField x) w e w':=by
 obtain ⟨A11,c11,A12,c12,rfl,l11,g11,l12,g12⟩:=k88_open hK
 have hl0:=len88_ x hb0
 have HLEN:Aside0 ((bField x).length≤1099511627776):=⟨by omega⟩
 have u11:Bytes x.f11:=bytes_of_wf g.2.2.2.2.2.2.2.2.2.2.2.1.2
 have U11:=mk0 u11
 unfold bk88 at hb0
 rw [sum_one,sum_one] at hb0
 have HZ0:Aside0 (x.f0.size≤1099511627776):=⟨by omega⟩
 have HZ4:Aside0 (x.f4.size≤1099511627776):=⟨by omega⟩
 have HZ5:Aside0 (x.f5.size≤1099511627776):=⟨by omega⟩
 have HZ6:Aside0 (x.f6.size≤1099511627776):=⟨by omega⟩
 have HZ9:Aside0 (x.f9.size≤1099511627776):=⟨by omega⟩
 have HZ11:Aside0 (x.f11.length≤1099511627776):=⟨by omega⟩
 have hcv:=cv_run x.f6
 have hp:=fun (W1:World)=>part_c 7 (bytesOf x.f6) (some ⟨W1.heap.size,0,none⟩) (grownCap W1 x.f6.size 0 5) (Go.Lib.bytesWorld W1 5 x.f6) (by decide) (by rw [bytesOf_length];exact HZ6.out) (cv_C W1 x.f6 (by have:=HZ6.out;omega)) (cv_cap W1 x.f6)
 simp only [bytesOf_length] at hp
 clear hb0 hl0 u11 g
 have G11:=mk0 g11
 have G12:=mk0 g12
 have L12:=mk0 l12
 clear g11 g12
 have HB:Aside0 (Below w.heap.size w (w.alloc (.cells #[.string x.f0,.int .i64 x.f1,.int .i64 x.f2,.int .i64 x.f3,.string x.f4,.string x.f5,.string x.f6,.bool x.f7,.int .i64 x.f8,.string x.f9,.bool x.f10,.slice A11 x.f11.length c11,.slice A12 x.f12.length c12] 88))):=⟨jj6 (Below.refl _ _) _⟩
 have BK:Aside0 ((w.alloc (.cells #[.string x.f0,.int .i64 x.f1,.int .i64 x.f2,.int .i64 x.f3,.string x.f4,.string x.f5,.string x.f6,.bool x.f7,.int .i64 x.f8,.string x.f9,.bool x.f10,.slice A11 x.f11.length c11,.slice A12 x.f12.length c12] 88)).heap[w.heap.size]?=some (.cells #[.string x.f0,.int .i64 x.f1,.int .i64 x.f2,.int .i64 x.f3,.string x.f4,.string x.f5,.string x.f6,.bool x.f7,.int .i64 x.f8,.string x.f9,.bool x.f10,.slice A11 x.f11.length c11,.slice A12 x.f12.length c12] 88 (0,0))):=⟨new1_ _ _⟩
 by_cases hO:x.f8=0
 all_goals
  first|have hob:(x.f8 != 0)=false:=bne_eq_false_iff_eq.mpr hO|have hob:(x.f8 != 0)=true:=bne_iff_ne.mpr hO
  have HO:=mk0 hO
  clear hO
  go_enter Try.func54,Try.ntmps54
  go_wp2_with (first|(go_at_call 24;(with_reducible refine (text_c 7 x.f6 _ (by decide) HZ6.out).mono ?_);rintro e wq ⟨v7,rfl,ho,hb⟩;replace HB:=mk0 (jj1 HB.out HB.out.size hb);replace BK:=mk0 (jj3 BK.out hb);(try clear p0_);(try clear p1_);(try clear p2_);(try clear p3_);(try clear p4_);(try clear p5_);(try clear p6_);(try clear p7_);(try clear p8_);(try clear p9_);(try clear p10_);(try clear p11_);(try clear p12_);obtain ⟨p0_,p1_,p2_,p3_,p4_,p5_,p6_,p7_,p8_,p9_,p10_,p11_,p12_⟩:=cz13 BK.out;clear ho hb)|(go_at_call 51;(with_reducible refine (hp _).mono ?_);rintro e wq ⟨v_,rfl,ho,hb2⟩;have hb:=jj1 (cv_below _ x.f6) (cv_below _ x.f6).size hb2;replace HB:=mk0 (jj1 HB.out HB.out.size hb);replace BK:=mk0 (jj3 BK.out hb);(try clear p0_);(try clear p1_);(try clear p2_);(try clear p3_);(try clear p4_);(try clear p5_);(try clear p6_);(try clear p7_);(try clear p8_);(try clear p9_);(try clear p10_);(try clear p11_);(try clear p12_);obtain ⟨p0_,p1_,p2_,p3_,p4_,p5_,p6_,p7_,p8_,p9_,p10_,p11_,p12_⟩:=cz13 BK.out;obtain ⟨R3,r3,ex_⟩:=Kd.jk4 ho;subst ex_;have HC3:=mk0 (Kd.jj7 ho).2.2;have HL3:=mk0 (Kd.jj7 ho).2.1;clear ho hb hb2)|(go_at_call 22;(with_reducible refine (number_c 9 (wrap64 (x.f8 - 1)) _ (by decide)).mono ?_);rintro e wq ⟨v_,rfl,ho,hb⟩;replace HB:=mk0 (jj1 HB.out HB.out.size hb);replace BK:=mk0 (jj3 BK.out hb);(try clear p0_);(try clear p1_);(try clear p2_);(try clear p3_);(try clear p4_);(try clear p5_);(try clear p6_);(try clear p7_);(try clear p8_);(try clear p9_);(try clear p10_);(try clear p11_);(try clear p12_);obtain ⟨p0_,p1_,p2_,p3_,p4_,p5_,p6_,p7_,p8_,p9_,p10_,p11_,p12_⟩:=cz13 BK.out;(try (have n_:=mk0 (Kd.jj0 HC3.out hb);clear HC3;have HC3:=n_;clear n_));obtain ⟨R4,r4,ex_⟩:=Kd.jk4 ho;subst ex_;have HC4:=mk0 (Kd.jj7 ho).2.2;have HL4:=mk0 (Kd.jj7 ho).2.1;clear ho hb))
  all_goals
   first|(rename x.f7=true=>h7)|(rename x.f7=false=>h7)
   have H7:=mk0 h7
   clear h7
   first|(have t_:=HC3.out;clear t_)|(have HC3:=mk0 (Kd.C_nil (Kd.int .u8) wq);have HL3:=mk0 (Nat.le_refl 0))
   first|(have t_:=HC4.out;clear t_)|(have HC4:=mk0 (Kd.C_nil (Kd.int .u8) wq);have HL4:=mk0 (Nat.le_refl 0))
   replace HB:=mk0 (jj2 HB.out)
   replace BK:=mk0 (jjq BK.out)
   replace HC3:=mk0 (Kd.C_drew HC3.out)
   replace HC4:=mk0 (Kd.C_drew HC4.out)
   refine start_ (n:=34) (S:=fun w'=>w'.cell? ⟨w.heap.size,0,none⟩=some (.string x.f0)∧w'.cell? ⟨w.heap.size,1,none⟩=some (.int .i64 x.f1)∧w'.cell? ⟨w.heap.size,2,none⟩=some (.int .i64 x.f2)∧w'.cell? ⟨w.heap.size,3,none⟩=some (.int .i64 x.f3)∧w'.cell? ⟨w.heap.size,4,none⟩=some (.string x.f4)∧w'.cell? ⟨w.heap.size,5,none⟩=some (.string x.f5)∧w'.cell? ⟨w.heap.size,9,none⟩=some (.string x.f9)∧w'.cell? ⟨w.heap.size,10,none⟩=some (.bool x.f10)∧w'.cell? ⟨w.heap.size,11,none⟩=some (.slice A11 x.f11.length c11)∧w'.cell? ⟨w.heap.size,12,none⟩=some (.slice A12 x.f12.length c12)) (ds:=[]) (bzs 34 0) (by kernel_rfl) rfl rfl ⟨bzC BK 0,bzC BK 1,bzC BK 2,bzC BK 3,bzC BK 4,bzC BK 5,bzC BK 9,bzC BK 10,bzC BK 11,bzC BK 12⟩ (fun hHeld=>?_)
   refine with_tabW field_t.tab8 field_t.bits8 (fun HT_ HW_=>?_)
   generalize wq.drew=wq at HB BK HC3 HC4 hHeld ⊢
   refine pzS 0 (some 21) (bzs 34 1) HT_ ?_
   refine pzS 3 (some 24) (bzs 34 9) HT_ ?_
   refine pzS 6 (some 27) (bzs 34 73) HT_ ?_
   refine pzS 9 (some 30) (bzs 34 585) HT_ ?_
   refine pzS 12 (some 33) (bzs 34 4681) HT_ ?_
   refine pzS 15 (some 36) (bzs 34 37449) HT_ ?_
   refine pzS 18 (some 39) (bzs 34 299593) HT_ ?_
   refine pzS 19 (some 40) (bzs 34 823881) HT_ ?_
   refine pzS 22 (some 43) (bzs 34 5018185) HT_ ?_
   refine pzS 23 (some 44) (bzs 34 13406793) HT_ ?_
   refine pzS 26 (some 47) (bzs 34 80515657) HT_ ?_
   refine pzS 29 (some 50) (bzs 34 617386569) HT_ ?_
   refine tzS 1 (some 22) (bzs 34 617386571) HT_ HW_ hHeld ?_
   refine tzS 4 (some 25) (bzs 34 617386587) HT_ HW_ hHeld ?_
   refine tzS 7 (some 28) (bzs 34 617386715) HT_ HW_ hHeld ?_
   refine tzS 10 (some 31) (bzs 34 617387739) HT_ HW_ hHeld ?_
   refine tzS 13 (some 34) (bzs 34 617395931) HT_ HW_ hHeld ?_
   refine tzS 16 (some 37) (bzs 34 617461467) HT_ HW_ hHeld ?_
   refine tzS 20 (some 41) (bzs 34 618510043) HT_ HW_ hHeld ?_
   refine tzS 24 (some 45) (bzs 34 635287259) HT_ HW_ hHeld ?_
   refine tzS 27 (some 48) (bzs 34 769504987) HT_ HW_ hHeld ?_
   refine tzS 30 (some 51) (bzs 34 1843246811) HT_ HW_ hHeld ?_
   refine one_ (i:=2) (N:=some 23) (bzs 34 1843246815) rfl rfl (jk2 HT_.out (by kernel_rfl)) (by decide) (fun K hK=>?_)
   refine gzO Try.func24 #[.int .i64 1,.string x.f0] ?_
   refine (text_c 1 x.f0 _ (by decide) HZ0.out).mono ?_
   rintro e wq ⟨v_,rfl,ho,hb⟩
   refine ⟨_,rfl,?_⟩
   replace HB:=mk0 (jj1 HB.out HB.out.size hb)
   replace BK:=mk0 (jj3 BK.out hb)
   replace HC3:=mk0 (Kd.jj0 HC3.out hb)
   replace HC4:=mk0 (Kd.jj0 HC4.out hb)
   obtain ⟨R23,r23,ex_⟩:=Kd.jk4 ho
   subst ex_
   have HC23:=mk0 (Kd.jj7 ho).2.2
   have HL23:=mk0 (Kd.jj7 ho).2.1
   clear ho hb
   refine hK.out _ _ ⟨bzC BK 0,bzC BK 1,bzC BK 2,bzC BK 3,bzC BK 4,bzC BK 5,bzC BK 9,bzC BK 10,bzC BK 11,bzC BK 12⟩ (fun hHeld=>?_)
   clear hK K
   refine nzS (some 23) ?_
   refine one_ (i:=5) (N:=some 26) (bzs 34 1843246847) rfl rfl (jk2 HT_.out (by kernel_rfl)) (by decide) (fun K hK=>?_)
   refine gzO Try.func24 #[.int .i64 2,.string x.f5] ?_
   refine (text_c 2 x.f5 _ (by decide) HZ5.out).mono ?_
   rintro e wq ⟨v_,rfl,ho,hb⟩
   refine ⟨_,rfl,?_⟩
   replace HB:=mk0 (jj1 HB.out HB.out.size hb)
   replace BK:=mk0 (jj3 BK.out hb)
   replace HC3:=mk0 (Kd.jj0 HC3.out hb)
   replace HC4:=mk0 (Kd.jj0 HC4.out hb)
   replace HC23:=mk0 (Kd.jj0 HC23.out hb)
   obtain ⟨R26,r26,ex_⟩:=Kd.jk4 ho
   subst ex_
   have HC26:=mk0 (Kd.jj7 ho).2.2
   have HL26:=mk0 (Kd.jj7 ho).2.1
   clear ho hb
   refine hK.out _ _ ⟨bzC BK 0,bzC BK 1,bzC BK 2,bzC BK 3,bzC BK 4,bzC BK 5,bzC BK 9,bzC BK 10,bzC BK 11,bzC BK 12⟩ (fun hHeld=>?_)
   clear hK K
   refine nzS (some 26) ?_
   refine one_ (i:=8) (N:=some 29) (bzs 34 1843247103) rfl rfl (jk2 HT_.out (by kernel_rfl)) (by decide) (fun K hK=>?_)
   refine gzO Try.func76 #[.int .i64 3,.int .i64 x.f1] ?_
   refine (some_c 3 x.f1 _ (by decide)).mono ?_
   rintro e wq ⟨v_,rfl,ho,hb⟩
   refine ⟨_,rfl,?_⟩
   replace HB:=mk0 (jj1 HB.out HB.out.size hb)
   replace BK:=mk0 (jj3 BK.out hb)
   replace HC3:=mk0 (Kd.jj0 HC3.out hb)
   replace HC4:=mk0 (Kd.jj0 HC4.out hb)
   replace HC23:=mk0 (Kd.jj0 HC23.out hb)
   replace HC26:=mk0 (Kd.jj0 HC26.out hb)
   obtain ⟨R29,r29,ex_⟩:=Kd.jk4 ho
   subst ex_
   have HC29:=mk0 (Kd.jj7 ho).2.2
   have HL29:=mk0 (Kd.jj7 ho).2.1
   clear ho hb
   refine hK.out _ _ ⟨bzC BK 0,bzC BK 1,bzC BK 2,bzC BK 3,bzC BK 4,bzC BK 5,bzC BK 9,bzC BK 10,bzC BK 11,bzC BK 12⟩ (fun hHeld=>?_)
   clear hK K
   refine nzS (some 29) ?_
   refine one_ (i:=11) (N:=some 32) (bzs 34 1843249151) rfl rfl (jk2 HT_.out (by kernel_rfl)) (by decide) (fun K hK=>?_)
   refine gzO Try.func76 #[.int .i64 4,.int .i64 x.f2] ?_
   refine (some_c 4 x.f2 _ (by decide)).mono ?_
   rintro e wq ⟨v_,rfl,ho,hb⟩
   refine ⟨_,rfl,?_⟩
   replace HB:=mk0 (jj1 HB.out HB.out.size hb)
   replace BK:=mk0 (jj3 BK.out hb)
   replace HC3:=mk0 (Kd.jj0 HC3.out hb)
   replace HC4:=mk0 (Kd.jj0 HC4.out hb)
   replace HC23:=mk0 (Kd.jj0 HC23.out hb)
   replace HC26:=mk0 (Kd.jj0 HC26.out hb)
   replace HC29:=mk0 (Kd.jj0 HC29.out hb)
   obtain ⟨R32,r32,ex_⟩:=Kd.jk4 ho
   subst ex_
   have HC32:=mk0 (Kd.jj7 ho).2.2
   have HL32:=mk0 (Kd.jj7 ho).2.1
   clear ho hb
   refine hK.out _ _ ⟨bzC BK 0,bzC BK 1,bzC BK 2,bzC BK 3,bzC BK 4,bzC BK 5,bzC BK 9,bzC BK 10,bzC BK 11,bzC BK 12⟩ (fun hHeld=>?_)
   clear hK K
   refine nzS (some 32) ?_
   refine one_ (i:=14) (N:=some 35) (bzs 34 1843265535) rfl rfl (jk2 HT_.out (by kernel_rfl)) (by decide) (fun K hK=>?_)
   refine gzO Try.func76 #[.int .i64 5,.int .i64 x.f3] ?_
   refine (some_c 5 x.f3 _ (by decide)).mono ?_
   rintro e wq ⟨v_,rfl,ho,hb⟩
   refine ⟨_,rfl,?_⟩
   replace HB:=mk0 (jj1 HB.out HB.out.size hb)
   replace BK:=mk0 (jj3 BK.out hb)
   replace HC3:=mk0 (Kd.jj0 HC3.out hb)
   replace HC4:=mk0 (Kd.jj0 HC4.out hb)
   replace HC23:=mk0 (Kd.jj0 HC23.out hb)
   replace HC26:=mk0 (Kd.jj0 HC26.out hb)
   replace HC29:=mk0 (Kd.jj0 HC29.out hb)
   replace HC32:=mk0 (Kd.jj0 HC32.out hb)
   obtain ⟨R35,r35,ex_⟩:=Kd.jk4 ho
   subst ex_
   have HC35:=mk0 (Kd.jj7 ho).2.2
   have HL35:=mk0 (Kd.jj7 ho).2.1
   clear ho hb
   refine hK.out _ _ ⟨bzC BK 0,bzC BK 1,bzC BK 2,bzC BK 3,bzC BK 4,bzC BK 5,bzC BK 9,bzC BK 10,bzC BK 11,bzC BK 12⟩ (fun hHeld=>?_)
   clear hK K
   refine nzS (some 35) ?_
   refine one_ (i:=17) (N:=some 38) (bzs 34 1843396607) rfl rfl (jk2 HT_.out (by kernel_rfl)) (by decide) (fun K hK=>?_)
   refine gzO Try.func24 #[.int .i64 6,.string x.f4] ?_
   refine (text_c 6 x.f4 _ (by decide) HZ4.out).mono ?_
   rintro e wq ⟨v_,rfl,ho,hb⟩
   refine ⟨_,rfl,?_⟩
   replace HB:=mk0 (jj1 HB.out HB.out.size hb)
   replace BK:=mk0 (jj3 BK.out hb)
   replace HC3:=mk0 (Kd.jj0 HC3.out hb)
   replace HC4:=mk0 (Kd.jj0 HC4.out hb)
   replace HC23:=mk0 (Kd.jj0 HC23.out hb)
   replace HC26:=mk0 (Kd.jj0 HC26.out hb)
   replace HC29:=mk0 (Kd.jj0 HC29.out hb)
   replace HC32:=mk0 (Kd.jj0 HC32.out hb)
   replace HC35:=mk0 (Kd.jj0 HC35.out hb)
   obtain ⟨R38,r38,ex_⟩:=Kd.jk4 ho
   subst ex_
   have HC38:=mk0 (Kd.jj7 ho).2.2
   have HL38:=mk0 (Kd.jj7 ho).2.1
   clear ho hb
   refine hK.out _ _ ⟨bzC BK 0,bzC BK 1,bzC BK 2,bzC BK 3,bzC BK 4,bzC BK 5,bzC BK 9,bzC BK 10,bzC BK 11,bzC BK 12⟩ (fun hHeld=>?_)
   clear hK K
   refine nzS (some 38) ?_
   refine one_ (i:=21) (N:=some 42) (bzs 34 1845493759) rfl rfl (jk2 HT_.out (by kernel_rfl)) (by decide) (fun K hK=>?_)
   refine gzO Try.func30 #[.int .i64 8,.slice A11 x.f11.length c11] ?_
   refine (bytes_c 8 x.f11 A11 c11 _ (by decide) HZ11.out U11.out (Kd.jj0 G11.out HB.out)).mono ?_
   rintro e wq ⟨v_,rfl,ho,hb⟩
   refine ⟨_,rfl,?_⟩
   replace HB:=mk0 (jj1 HB.out HB.out.size hb)
   replace BK:=mk0 (jj3 BK.out hb)
   replace HC3:=mk0 (Kd.jj0 HC3.out hb)
   replace HC4:=mk0 (Kd.jj0 HC4.out hb)
   replace HC23:=mk0 (Kd.jj0 HC23.out hb)
   replace HC26:=mk0 (Kd.jj0 HC26.out hb)
   replace HC29:=mk0 (Kd.jj0 HC29.out hb)
   replace HC32:=mk0 (Kd.jj0 HC32.out hb)
   replace HC35:=mk0 (Kd.jj0 HC35.out hb)
   replace HC38:=mk0 (Kd.jj0 HC38.out hb)
   obtain ⟨R42,r42,ex_⟩:=Kd.jk4 ho
   subst ex_
   have HC42:=mk0 (Kd.jj7 ho).2.2
   have HL42:=mk0 (Kd.jj7 ho).2.1
   clear ho hb
   refine hK.out _ _ ⟨bzC BK 0,bzC BK 1,bzC BK 2,bzC BK 3,bzC BK 4,bzC BK 5,bzC BK 9,bzC BK 10,bzC BK 11,bzC BK 12⟩ (fun hHeld=>?_)
   clear hK K
   refine nzS (some 42) ?_
   refine one_ (i:=25) (N:=some 46) (bzs 34 1879048191) rfl rfl (jk2 HT_.out (by kernel_rfl)) (by decide) (fun K hK=>?_)
   refine gzO Try.func24 #[.int .i64 10,.string x.f9] ?_
   refine (text_c 10 x.f9 _ (by decide) HZ9.out).mono ?_
   rintro e wq ⟨v_,rfl,ho,hb⟩
   refine ⟨_,rfl,?_⟩
   have n0_:=mk0 (jj1 HB.out HB.out.size hb)
   have n1_:=mk0 (jj3 BK.out hb)
   have n2_:=mk0 (Kd.jj0 HC3.out hb)
   have n3_:=mk0 (Kd.jj0 HC4.out hb)
   have n4_:=mk0 (Kd.jj0 HC23.out hb)
   have n5_:=mk0 (Kd.jj0 HC26.out hb)
   have n6_:=mk0 (Kd.jj0 HC29.out hb)
   have n7_:=mk0 (Kd.jj0 HC32.out hb)
   have n8_:=mk0 (Kd.jj0 HC35.out hb)
   have n9_:=mk0 (Kd.jj0 HC38.out hb)
   have n10_:=mk0 (Kd.jj0 HC42.out hb)
   clear HB BK HC3 HC4 HC23 HC26 HC29 HC32 HC35 HC38 HC42
   have HB:=n0_
   have BK:=n1_
   have HC3:=n2_
   have HC4:=n3_
   have HC23:=n4_
   have HC26:=n5_
   have HC29:=n6_
   have HC32:=n7_
   have HC35:=n8_
   have HC38:=n9_
   have HC42:=n10_
   clear n0_ n1_ n2_ n3_ n4_ n5_ n6_ n7_ n8_ n9_ n10_
   obtain ⟨R46,r46,ex_⟩:=Kd.jk4 ho
   subst ex_
   have HC46:=mk0 (Kd.jj7 ho).2.2
   have HL46:=mk0 (Kd.jj7 ho).2.1
   clear ho hb
   refine hK.out _ _ ⟨bzC BK 0,bzC BK 1,bzC BK 2,bzC BK 3,bzC BK 4,bzC BK 5,bzC BK 9,bzC BK 10,bzC BK 11,bzC BK 12⟩ (fun hHeld=>?_)
   clear hK K
   refine nzS (some 46) ?_
   refine one_ (i:=28) (N:=some 49) (bzs 34 2147483647) rfl rfl (jk2 HT_.out (by kernel_rfl)) (by decide) (fun K hK=>?_)
   refine gzO Try.func53 #[.int .i64 17,.bool x.f10] ?_
   refine (truth_c 17 x.f10 _ (by decide)).mono ?_
   rintro e wq ⟨v_,rfl,ho,hb⟩
   refine ⟨_,rfl,?_⟩
   have n0_:=mk0 (jj1 HB.out HB.out.size hb)
   have n1_:=mk0 (jj3 BK.out hb)
   have n2_:=mk0 (Kd.jj0 HC3.out hb)
   have n3_:=mk0 (Kd.jj0 HC4.out hb)
   have n4_:=mk0 (Kd.jj0 HC23.out hb)
   have n5_:=mk0 (Kd.jj0 HC26.out hb)
   have n6_:=mk0 (Kd.jj0 HC29.out hb)
   have n7_:=mk0 (Kd.jj0 HC32.out hb)
   have n8_:=mk0 (Kd.jj0 HC35.out hb)
   have n9_:=mk0 (Kd.jj0 HC38.out hb)
   have n10_:=mk0 (Kd.jj0 HC42.out hb)
   have n11_:=mk0 (Kd.jj0 HC46.out hb)
   clear HB BK HC3 HC4 HC23 HC26 HC29 HC32 HC35 HC38 HC42 HC46
   have HB:=n0_
   have BK:=n1_
   have HC3:=n2_
   have HC4:=n3_
   have HC23:=n4_
   have HC26:=n5_
   have HC29:=n6_
   have HC32:=n7_
   have HC35:=n8_
   have HC38:=n9_
   have HC42:=n10_
   have HC46:=n11_
   clear n0_ n1_ n2_ n3_ n4_ n5_ n6_ n7_ n8_ n9_ n10_ n11_
   obtain ⟨R49,r49,ex_⟩:=Kd.jk4 ho
   subst ex_
   have HC49:=mk0 (Kd.jj7 ho).2.2
   have HL49:=mk0 (Kd.jj7 ho).2.1
   clear ho hb
   refine hK.out _ _ ⟨bzC BK 0,bzC BK 1,bzC BK 2,bzC BK 3,bzC BK 4,bzC BK 5,bzC BK 9,bzC BK 10,bzC BK 11,bzC BK 12⟩ (fun hHeld=>?_)
   clear hK K
   refine nzS (some 49) ?_
   refine one_ (i:=31) (N:=some 52) (bzs 34 4294967295) rfl rfl (jk2 HT_.out (by kernel_rfl)) (by decide) (fun K hK=>?_)
   first|(obtain ⟨ys,hys⟩:∃ y_:List (List Int),y_=[tS 1 x.f0,tS 2 x.f5,sN 3 x.f1,sN 4 x.f2,sN 5 x.f3,tS 6 x.f4,fB 7 (bytesOf x.f6),oB 8 x.f11,fN 9 (wrap64 (x.f8 - 1)),tS 10 x.f9,tB 17 x.f10,x.f12]:=⟨_,rfl⟩;refine Kd.N_lit_step (Kd.slice 5 (Kd.int .u8)) (w0:=wq) wq.heap.size 28 ?hg (N':=52) ?hd (xs:=([tS 1 x.f0,tS 2 x.f5,sN 3 x.f1,sN 4 x.f2,sN 5 x.f3,tS 6 x.f4,fB 7 (bytesOf x.f6),oB 8 x.f11,fN 9 (wrap64 (x.f8 - 1)),tS 10 x.f9,tB 17 x.f10,x.f12]:List (List Int))) (inner:=[.slice R23 (tS 1 x.f0).length r23,.slice R26 (tS 2 x.f5).length r26,.slice R29 (sN 3 x.f1).length r29,.slice R32 (sN 4 x.f2).length r32,.slice R35 (sN 5 x.f3).length r35,.slice R38 (tS 6 x.f4).length r38,.slice R3 (fB 7 (bytesOf x.f6)).length r3,.slice R42 (oB 8 x.f11).length r42,.slice R4 (fN 9 (wrap64 (x.f8 - 1))).length r4,.slice R46 (tS 10 x.f9).length r46,.slice R49 (tB 17 x.f10).length r49,.slice A12 (x.f12).length c12]) (ok:=fun _=>True) (okp:=fun k_=>k_ < wq.heap.size) ?hr ?hp (fun _ _=>trivial) trivial (Below.refl _ _) (Nat.le_refl _) (by simp) ?_;(case hd=>rfl);(case hg=>rfl);(case hr=>first|(go_simp;done)|(go_simp;rfl));(case hp=>exact Reps.one (fk_ HC23.out HL23.out) (Reps.one (fk_ HC26.out HL26.out) (Reps.one (fk_ HC29.out HL29.out) (Reps.one (fk_ HC32.out HL32.out) (Reps.one (fk_ HC35.out HL35.out) (Reps.one (fk_ HC38.out HL38.out) (Reps.one (fk_ HC3.out HL3.out) (Reps.one (fk_ HC42.out HL42.out) (Reps.one (fk_ HC4.out HL4.out) (Reps.one (fk_ HC46.out HL46.out) (Reps.one (fk_ HC49.out HL49.out) (Reps.one (fk_ (Kd.jj0 G12.out HB.out) L12.out) (Reps.none _ _))))))))))))))|(obtain ⟨ys,hys⟩:∃ y_:List (List Int),y_=[tS 1 x.f0,tS 2 x.f5,sN 3 x.f1,sN 4 x.f2,sN 5 x.f3,tS 6 x.f4,fB 7 (bytesOf x.f6),oB 8 x.f11,([]:List Int),tS 10 x.f9,tB 17 x.f10,x.f12]:=⟨_,rfl⟩;refine Kd.N_lit_step (Kd.slice 5 (Kd.int .u8)) (w0:=wq) wq.heap.size 28 ?hg (N':=52) ?hd (xs:=([tS 1 x.f0,tS 2 x.f5,sN 3 x.f1,sN 4 x.f2,sN 5 x.f3,tS 6 x.f4,fB 7 (bytesOf x.f6),oB 8 x.f11,([]:List Int),tS 10 x.f9,tB 17 x.f10,x.f12]:List (List Int))) (inner:=[.slice R23 (tS 1 x.f0).length r23,.slice R26 (tS 2 x.f5).length r26,.slice R29 (sN 3 x.f1).length r29,.slice R32 (sN 4 x.f2).length r32,.slice R35 (sN 5 x.f3).length r35,.slice R38 (tS 6 x.f4).length r38,.slice R3 (fB 7 (bytesOf x.f6)).length r3,.slice R42 (oB 8 x.f11).length r42,.slice none 0 0,.slice R46 (tS 10 x.f9).length r46,.slice R49 (tB 17 x.f10).length r49,.slice A12 (x.f12).length c12]) (ok:=fun _=>True) (okp:=fun k_=>k_ < wq.heap.size) ?hr ?hp (fun _ _=>trivial) trivial (Below.refl _ _) (Nat.le_refl _) (by simp) ?_;(case hd=>rfl);(case hg=>rfl);(case hr=>first|(go_simp;done)|(go_simp;rfl));(case hp=>exact Reps.one (fk_ HC23.out HL23.out) (Reps.one (fk_ HC26.out HL26.out) (Reps.one (fk_ HC29.out HL29.out) (Reps.one (fk_ HC32.out HL32.out) (Reps.one (fk_ HC35.out HL35.out) (Reps.one (fk_ HC38.out HL38.out) (Reps.one (fk_ HC3.out HL3.out) (Reps.one (fk_ HC42.out HL42.out) (Reps.one (fk_ HC4.out HL4.out) (Reps.one (fk_ HC46.out HL46.out) (Reps.one (fk_ HC49.out HL49.out) (Reps.one (fk_ (Kd.jj0 G12.out HB.out) L12.out) (Reps.none _ _))))))))))))))|(obtain ⟨ys,hys⟩:∃ y_:List (List Int),y_=[tS 1 x.f0,tS 2 x.f5,sN 3 x.f1,sN 4 x.f2,sN 5 x.f3,tS 6 x.f4,([]:List Int),oB 8 x.f11,fN 9 (wrap64 (x.f8 - 1)),tS 10 x.f9,tB 17 x.f10,x.f12]:=⟨_,rfl⟩;refine Kd.N_lit_step (Kd.slice 5 (Kd.int .u8)) (w0:=wq) wq.heap.size 28 ?hg (N':=52) ?hd (xs:=([tS 1 x.f0,tS 2 x.f5,sN 3 x.f1,sN 4 x.f2,sN 5 x.f3,tS 6 x.f4,([]:List Int),oB 8 x.f11,fN 9 (wrap64 (x.f8 - 1)),tS 10 x.f9,tB 17 x.f10,x.f12]:List (List Int))) (inner:=[.slice R23 (tS 1 x.f0).length r23,.slice R26 (tS 2 x.f5).length r26,.slice R29 (sN 3 x.f1).length r29,.slice R32 (sN 4 x.f2).length r32,.slice R35 (sN 5 x.f3).length r35,.slice R38 (tS 6 x.f4).length r38,.slice none 0 0,.slice R42 (oB 8 x.f11).length r42,.slice R4 (fN 9 (wrap64 (x.f8 - 1))).length r4,.slice R46 (tS 10 x.f9).length r46,.slice R49 (tB 17 x.f10).length r49,.slice A12 (x.f12).length c12]) (ok:=fun _=>True) (okp:=fun k_=>k_ < wq.heap.size) ?hr ?hp (fun _ _=>trivial) trivial (Below.refl _ _) (Nat.le_refl _) (by simp) ?_;(case hd=>rfl);(case hg=>rfl);(case hr=>first|(go_simp;done)|(go_simp;rfl));(case hp=>exact Reps.one (fk_ HC23.out HL23.out) (Reps.one (fk_ HC26.out HL26.out) (Reps.one (fk_ HC29.out HL29.out) (Reps.one (fk_ HC32.out HL32.out) (Reps.one (fk_ HC35.out HL35.out) (Reps.one (fk_ HC38.out HL38.out) (Reps.one (fk_ HC3.out HL3.out) (Reps.one (fk_ HC42.out HL42.out) (Reps.one (fk_ HC4.out HL4.out) (Reps.one (fk_ HC46.out HL46.out) (Reps.one (fk_ HC49.out HL49.out) (Reps.one (fk_ (Kd.jj0 G12.out HB.out) L12.out) (Reps.none _ _))))))))))))))|(obtain ⟨ys,hys⟩:∃ y_:List (List Int),y_=[tS 1 x.f0,tS 2 x.f5,sN 3 x.f1,sN 4 x.f2,sN 5 x.f3,tS 6 x.f4,([]:List Int),oB 8 x.f11,([]:List Int),tS 10 x.f9,tB 17 x.f10,x.f12]:=⟨_,rfl⟩;refine Kd.N_lit_step (Kd.slice 5 (Kd.int .u8)) (w0:=wq) wq.heap.size 28 ?hg (N':=52) ?hd (xs:=([tS 1 x.f0,tS 2 x.f5,sN 3 x.f1,sN 4 x.f2,sN 5 x.f3,tS 6 x.f4,([]:List Int),oB 8 x.f11,([]:List Int),tS 10 x.f9,tB 17 x.f10,x.f12]:List (List Int))) (inner:=[.slice R23 (tS 1 x.f0).length r23,.slice R26 (tS 2 x.f5).length r26,.slice R29 (sN 3 x.f1).length r29,.slice R32 (sN 4 x.f2).length r32,.slice R35 (sN 5 x.f3).length r35,.slice R38 (tS 6 x.f4).length r38,.slice none 0 0,.slice R42 (oB 8 x.f11).length r42,.slice none 0 0,.slice R46 (tS 10 x.f9).length r46,.slice R49 (tB 17 x.f10).length r49,.slice A12 (x.f12).length c12]) (ok:=fun _=>True) (okp:=fun k_=>k_ < wq.heap.size) ?hr ?hp (fun _ _=>trivial) trivial (Below.refl _ _) (Nat.le_refl _) (by simp) ?_;(case hd=>rfl);(case hg=>rfl);(case hr=>first|(go_simp;done)|(go_simp;rfl));(case hp=>exact Reps.one (fk_ HC23.out HL23.out) (Reps.one (fk_ HC26.out HL26.out) (Reps.one (fk_ HC29.out HL29.out) (Reps.one (fk_ HC32.out HL32.out) (Reps.one (fk_ HC35.out HL35.out) (Reps.one (fk_ HC38.out HL38.out) (Reps.one (fk_ HC3.out HL3.out) (Reps.one (fk_ HC42.out HL42.out) (Reps.one (fk_ HC4.out HL4.out) (Reps.one (fk_ HC46.out HL46.out) (Reps.one (fk_ HC49.out HL49.out) (Reps.one (fk_ (Kd.jj0 G12.out HB.out) L12.out) (Reps.none _ _))))))))))))))
   intro v_ wq hn hb hg_ hnew_
   clear hg_ hnew_
   rw [← hys] at hn
   have n0_:=mk0 (jj1 HB.out HB.out.size hb)
   have n1_:=mk0 (jj3 BK.out hb)
   have n2_:=mk0 (Kd.jj0 HC3.out hb)
   have n3_:=mk0 (Kd.jj0 HC4.out hb)
   have n4_:=mk0 (Kd.jj0 HC23.out hb)
   have n5_:=mk0 (Kd.jj0 HC26.out hb)
   have n6_:=mk0 (Kd.jj0 HC29.out hb)
   have n7_:=mk0 (Kd.jj0 HC32.out hb)
   have n8_:=mk0 (Kd.jj0 HC35.out hb)
   have n9_:=mk0 (Kd.jj0 HC38.out hb)
   have n10_:=mk0 (Kd.jj0 HC42.out hb)
   have n11_:=mk0 (Kd.jj0 HC46.out hb)
   have n12_:=mk0 (Kd.jj0 HC49.out hb)
   clear HB BK HC3 HC4 HC23 HC26 HC29 HC32 HC35 HC38 HC42 HC46 HC49
   have HB:=n0_
   have BK:=n1_
   have HC3:=n2_
   have HC4:=n3_
   have HC23:=n4_
   have HC26:=n5_
   have HC29:=n6_
   have HC32:=n7_
   have HC35:=n8_
   have HC38:=n9_
   have HC42:=n10_
   have HC46:=n11_
   have HC49:=n12_
   clear n0_ n1_ n2_ n3_ n4_ n5_ n6_ n7_ n8_ n9_ n10_ n11_ n12_
   obtain ⟨Rz,rz,ex_⟩:=Kd.N_slice hn
   subst ex_
   have HCz:=mk0 (Kd.N_reads' hn).2.2
   clear hn hb
   have HF:=mk0 (show ys.flatten=bField x from by rw [hys];simp [bField,dB,pN,H7.out,HO.out])
   have HY:=mk0 (show ys.length < 1000000 from by rw [hys];simp)
   clear hys
   refine hK.out _ _ ⟨bzC BK 0,bzC BK 1,bzC BK 2,bzC BK 3,bzC BK 4,bzC BK 5,bzC BK 9,bzC BK 10,bzC BK 11,bzC BK 12⟩ (fun hHeld=>?_)
   clear hK K
   refine nzS (some 52) ?_
   refine one_ (i:=32) (N:=some 53) (bzs 34 8589934591) rfl rfl (jk2 HT_.out (by kernel_rfl)) (by decide) (fun K hK=>?_)
   refine gzO Try.func23 #[.slice Rz ys.length rz] ?_
   refine (all_c ys Rz rz _ HCz.out (by rw [HF.out];have:=HLEN.out;omega) HY.out).mono ?_
   rintro e wq ⟨v_,rfl,ho,hb⟩
   refine ⟨_,rfl,?_⟩
   have HSZ:=mk0 HB.out.size
   have n0_:=mk0 (jj1 HB.out HB.out.size hb)
   have n1_:=mk0 (jj3 BK.out hb)
   have n2_:=mk0 (Kd.jj0 HC3.out hb)
   have n3_:=mk0 (Kd.jj0 HC4.out hb)
   have n4_:=mk0 (Kd.jj0 HC23.out hb)
   have n5_:=mk0 (Kd.jj0 HC26.out hb)
   have n6_:=mk0 (Kd.jj0 HC29.out hb)
   have n7_:=mk0 (Kd.jj0 HC32.out hb)
   have n8_:=mk0 (Kd.jj0 HC35.out hb)
   have n9_:=mk0 (Kd.jj0 HC38.out hb)
   have n10_:=mk0 (Kd.jj0 HC42.out hb)
   have n11_:=mk0 (Kd.jj0 HC46.out hb)
   have n12_:=mk0 (Kd.jj0 HC49.out hb)
   have n13_:=mk0 (Kd.jj0 HCz.out hb)
   clear HB BK HC3 HC4 HC23 HC26 HC29 HC32 HC35 HC38 HC42 HC46 HC49 HCz
   have HB:=n0_
   have BK:=n1_
   have HC3:=n2_
   have HC4:=n3_
   have HC23:=n4_
   have HC26:=n5_
   have HC29:=n6_
   have HC32:=n7_
   have HC35:=n8_
   have HC38:=n9_
   have HC42:=n10_
   have HC46:=n11_
   have HC49:=n12_
   have HCz:=n13_
   clear n0_ n1_ n2_ n3_ n4_ n5_ n6_ n7_ n8_ n9_ n10_ n11_ n12_ n13_
   rw [HF.out] at ho
   have HRf:=mk0 (Kd.R_lower ho HSZ.out)
   obtain ⟨R53,r53,ex_⟩:=Kd.jk4 ho
   subst ex_
   have HC53:=mk0 (Kd.jj7 ho).2.2
   have HL53:=mk0 (Kd.jj7 ho).2.1
   clear ho hb
   refine hK.out _ _ ⟨bzC BK 0,bzC BK 1,bzC BK 2,bzC BK 3,bzC BK 4,bzC BK 5,bzC BK 9,bzC BK 10,bzC BK 11,bzC BK 12⟩ (fun hHeld=>?_)
   clear hK K
   refine nzS (some 53) ?_
   refine pzS 33 (some 2) (bzs 34 17179869183) HT_ ?_
   refine done_ (done_of HT_.out (by kernel_rfl)) ?_
   go_wp2
   go_ret
   exact ⟨_,rfl,HRf.out,HB.out⟩
end Go.Proofs.Ytheoafenehckbaa.R1
