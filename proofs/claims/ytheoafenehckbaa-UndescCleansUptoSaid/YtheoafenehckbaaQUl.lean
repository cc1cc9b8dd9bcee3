/- A file without what is not known; twice is once (UndescCleans). -/
import Derived.Test.YtheoafenehckbaaQAwc
import Derived.Test.YtheoafenehckbaaQSh
import Derived.Test.YtheoafenehckbaaQCi
import Derived.Test.YtheoafenehckbaaQCg
import Derived.Test.YtheoafenehckbaaQCf
import Derived.Test.YtheoafenehckbaaQDz
import Derived.Test.YtheoafenehckbaaQFw
import Derived.Test.YtheoafenehckbaaQT4
import Derived.Test.YtheoafenehckbaaQSh
import Derived.Test.YtheoafenehckbaaQHg
import Derived.LoopN
import Derived.RegionTactic
set_option maxHeartbeats 8000000
set_option maxRecDepth 100000
namespace Go.Proofs.Ytheoafenehckbaa.Ur
open Go.RowKit GUndescBack YtheoafenehckbaaW.PrintWords YtheoafenehckbaaW.PrintLast YtheoafenehckbaaW.PrintMore Rk Sp Dp
set_option linter.unusedVariables false
set_option linter.unusedSimpArgs false
theorem FKof {α:Type} {d:Kd α} (hd:Kd.Heap d) {w W:World} {x:α} {cs:List Value} (h:d.K w x cs) (hb:Below w.heap.size w W):Kd.FK d W (fun k=>k < w.heap.size) x cs:=fun W' hW=>hd.K (fun k hk=>(hW k hk (Nat.lt_of_lt_of_le hk hb.size)).trans (hb.block k hk)) h
theorem cleans_few (x:S30) (gx:good30 x) (w:World) (cs:List Value) (hx:k30.K w x cs) (hfew:∀ (w:World) (cs:List Value),k30.K w x cs→Calls Try.prog 7 #[.agg cs.toArray] w fun e w'=>e = .returned (.bool false)∧Below w.heap.size w w'):Calls Try.prog 5 #[.agg cs.toArray] w fun e w'=>e = .returned (.bool true)∧Below w.heap.size w w':=by
 obtain ⟨A2,c2,A3,c3,A4,c4,A5,c5,A6,c6,A7,c7,A9,c9,A10,c10,rfl,l2,g2,l3,g3,l4,g4,l5,g5,l6,g6,l7,g7,l9,g9,l10,g10⟩:=k30_open hx
 go_enter Try.func5,Try.ntmps5
 go_wp2_with (first|((with_reducible refine jk0 (N:=1) rfl ?_);refine bzX 1 #[.string x.f0,.string x.f1,.slice A2 x.f2.length c2,.slice A3 x.f3.length c3,.slice A4 x.f4.length c4,.slice A5 x.f5.length c5,.slice A6 x.f6.length c6,.slice A7 x.f7.length c7,.string x.f8,.slice A9 x.f9.length c9,.slice A10 x.f10.length c10] 30 ?_;intro gx hgx wa hbox hb;have HB:=mk0 hb;have BX:=mk0 hbox;clear hgx hbox hb)|((with_reducible refine gate_load (ty:=30) (p:=1) rfl ?_);refine load_box 30 1 gx _ _ BX.out Try.underlying30 ?_)|(go_at_call 6;(with_reducible refine (awake_c _).mono ?_);rintro e w1 ⟨rfl,hb⟩;have n0_:=mk0 (jj1 HB.out HB.out.size hb);have b0_:=mk0 (jj3 BX.out hb);clear hb HB BX;have HB:=n0_;clear n0_;have BX:=b0_;clear b0_)|(go_at_call 7;(with_reducible refine (hfew _ _ (k30_mk _ x l2 (Kd.jj0 g2 HB.out) l3 (Kd.jj0 g3 HB.out) l4 (Kd.jj0 g4 HB.out) l5 (Kd.jj0 g5 HB.out) l6 (Kd.jj0 g6 HB.out) l7 (Kd.jj0 g7 HB.out) l9 (Kd.jj0 g9 HB.out) l10 (Kd.jj0 g10 HB.out))).mono ?_);rintro e w1 ⟨rfl,hb⟩;have n0_:=mk0 (jj1 HB.out HB.out.size hb);have b0_:=mk0 (jj3 BX.out hb);clear hb HB BX;have HB:=n0_;clear n0_;have BX:=b0_;clear b0_))
 go_ret
 exact ⟨rfl,HB.out⟩
def cleans.T6:Bool × List (List Nat × List Nat):=(true,[([],[]),([],[]),([1],[1]),([0,2,2],[0,2]),([3,3],[3]),([4],[4]),([5,4,4],[4,5]),([4],[4]),([6,7,6,4],[4,6,7]),([4,8],[4,8]),([9,8,0,1,2,3,4,5,6,7,8,9],[9])])
def cleans.B6:List Nat:=[0,0,2,7,15,31,63,31,255,511,1023]
theorem cleans.tab6:rtab .any (opsOf Try.f5 6)=cleans.T6:=by kernel_rfl
theorem cleans.bits6:waitsOk cleans.T6.2 cleans.B6=true:=by kernel_rfl
theorem cleans_ok (x:S30) (gx:good30 x) (w:World) (cs:List Value) (hx:k30.K w x cs) (hfew:∀ (w:World) (cs:List Value),k30.K w x cs→Calls Try.prog 7 #[.agg cs.toArray] w fun e w'=>e = .returned (.bool true)∧Below w.heap.size w w') (y:S30) (hy:clFile x=y) (hy2:clFile y=y) (kx:bk30 x≤4294967296) (gy:good30 y) (ky:bk30 y≤4294967296) (dy:hL y.f4≤64):Calls Try.prog 5 #[.agg cs.toArray] w fun e w'=>e = .returned (.bool true)∧Below w.heap.size w w':=by
 obtain ⟨A2,c2,A3,c3,A4,c4,A5,c5,A6,c6,A7,c7,A9,c9,A10,c10,rfl,l2,g2,l3,g3,l4,g4,l5,g5,l6,g6,l7,g7,l9,g9,l10,g10⟩:=k30_open hx
 have HX:=mk0 (k30_mk w x l2 g2 l3 g3 l4 g4 l5 g5 l6 g6 l7 g7 l9 g9 l10 g10)
 have HY:=mk0 hy
 have HY2:=mk0 hy2
 have HK:=mk0 kx
 have HG:=mk0 gy
 have HK2:=mk0 ky
 have HD:=mk0 dy
 clear hy hy2 kx gy ky dy
 go_enter Try.func5,Try.ntmps5
 go_wp2_with (first|((with_reducible refine jk0 (N:=1) rfl ?_);refine bzX 1 #[.string x.f0,.string x.f1,.slice A2 x.f2.length c2,.slice A3 x.f3.length c3,.slice A4 x.f4.length c4,.slice A5 x.f5.length c5,.slice A6 x.f6.length c6,.slice A7 x.f7.length c7,.string x.f8,.slice A9 x.f9.length c9,.slice A10 x.f10.length c10] 30 ?_;intro gx hgx wa hbox hb;have HB:=mk0 hb;have BX:=mk0 hbox;clear hgx hbox hb)|((with_reducible refine gate_load (ty:=30) (p:=1) rfl ?_);refine load_box 30 1 gx _ _ BX.out Try.underlying30 ?_)|(go_at_call 6;(with_reducible refine (awake_c _).mono ?_);rintro e w1 ⟨rfl,hb⟩;have n0_:=mk0 (jj1 HB.out HB.out.size hb);have b0_:=mk0 (jj3 BX.out hb);clear hb HB BX;have HB:=n0_;clear n0_;have BX:=b0_;clear b0_)|(go_at_call 7;(with_reducible refine (hfew _ _ (k30_mk _ x l2 (Kd.jj0 g2 HB.out) l3 (Kd.jj0 g3 HB.out) l4 (Kd.jj0 g4 HB.out) l5 (Kd.jj0 g5 HB.out) l6 (Kd.jj0 g6 HB.out) l7 (Kd.jj0 g7 HB.out) l9 (Kd.jj0 g9 HB.out) l10 (Kd.jj0 g10 HB.out))).mono ?_);rintro e w1 ⟨rfl,hb⟩;have n0_:=mk0 (jj1 HB.out HB.out.size hb);have b0_:=mk0 (jj3 BX.out hb);clear hb HB BX;have HB:=n0_;clear n0_;have BX:=b0_;clear b0_)|(go_at_call 14;(with_reducible refine (Uclean_c x HK.out (fun k=>k < w.heap.size) _ _ (FKof hp30 HX.out HB.out)).mono ?_);rintro e w2 ⟨cs2,rfl,hF,hb⟩;have hF:=Kd.FK_now hF;rw [HY.out] at hF;obtain ⟨B2,d2,B3,d3,B4,d4,B5,d5,B6,d6,B7,d7,B9,d9,B10,d10,ecs,m2,k2,m3,k3,m4,k4,m5,k5,m6,k6,m7,k7,m9,k9,m10,k10⟩:=k30_open hF;subst ecs;have HY1:=mk0 hF;clear hF;have HB2:=mk0 (Below.refl w2.heap.size w2);have n0_:=mk0 (jj1 HB.out HB.out.size hb);have b0_:=mk0 (jj3 BX.out hb);clear hb HB BX;have HB:=n0_;clear n0_;have BX:=b0_;clear b0_)|((with_reducible refine jk0 (N:=3) rfl ?_);refine bzX 3 #[.string (⟨#[]⟩:ByteArray),.string (⟨#[]⟩:ByteArray),.slice none 0 0,.slice none 0 0,.slice none 0 0,.slice none 0 0,.slice none 0 0,.slice none 0 0,.string (⟨#[]⟩:ByteArray),.slice none 0 0,.slice none 0 0] 30 ?_;intro gy hgy w3 hbox hb;have HGW:=mk0 (show w.heap.size≤gy from hgy ▸ HB.out.size);have HG2:=mk0 (show w2.heap.size≤gy from hgy ▸ HB2.out.size);have HNE:=mk0 (show gx≠gy from hgy ▸ Nat.ne_of_lt (blk_lt BX.out));have BY:=mk0 hbox;clear hgy hbox;have n0_:=mk0 (jj1 HB.out HB.out.size hb);have n1_:=mk0 (jj1 HB2.out HB2.out.size hb);have b0_:=mk0 (jj3 BX.out hb);clear hb HB HB2 BX;have HB:=n0_;clear n0_;have HB2:=n1_;clear n1_;have BX:=b0_;clear b0_)|((with_reducible refine jjz (t:=30) (p:=3) rfl ?_);refine Ur.store_box 30 3 10 gy #[.string y.f0,.string y.f1,.slice B2 y.f2.length d2,.slice B3 y.f3.length d3,.slice B4 y.f4.length d4,.slice B5 y.f5.length d5,.slice B6 y.f6.length d6,.slice B7 y.f7.length d7,.string y.f8,.slice B9 y.f9.length d9,.slice B10 y.f10.length d10] BY.out ?_;intro w4 hS hbS hkS;have n0_:=mk0 (hbS _ _ HGW.out HB.out);have n1_:=mk0 (hbS _ _ HG2.out HB2.out);have n2_:=mk0 ((hkS gx HNE.out).trans BX.out);clear HB HB2 BX BY hbS hkS;have HB:=n0_;have HB2:=n1_;have BX:=n2_;have BY:=mk0 hS;clear n0_ n1_ n2_ hS))
 refine start_ (n:=11) (S:=(fun w'=>w'.heap[gx]?=some (.cells #[.string x.f0,.string x.f1,.slice A2 x.f2.length c2,.slice A3 x.f3.length c3,.slice A4 x.f4.length c4,.slice A5 x.f5.length c5,.slice A6 x.f6.length c6,.slice A7 x.f7.length c7,.string x.f8,.slice A9 x.f9.length c9,.slice A10 x.f10.length c10] 30 (0,0))∧w'.heap[gy]?=some (.cells #[.string y.f0,.string y.f1,.slice B2 y.f2.length d2,.slice B3 y.f3.length d3,.slice B4 y.f4.length d4,.slice B5 y.f5.length d5,.slice B6 y.f6.length d6,.slice B7 y.f7.length d7,.string y.f8,.slice B9 y.f9.length d9,.slice B10 y.f10.length d10] 30 (0,0)))) (ds:=[]) (bzs 11 0) (by kernel_rfl) rfl rfl ⟨jjq BX.out,jjq BY.out⟩ (fun hHeld=>?_)
 refine with_tabW cleans.tab6 cleans.bits6 (fun HT_ HW_=>?_)
 replace HB:=mk0 (jj2 HB.out)
 replace HB2:=mk0 (jj2 HB2.out)
 replace BX:=mk0 (jjq BX.out)
 replace BY:=mk0 (jjq BY.out)
 generalize w4.drew=wq at HB HB2 BX BY hHeld ⊢
 refine tzL 0 (some 11) (bzs 11 1) HT_ HW_ hHeld 30 3 gy (fun _ h=>h.2) Try.underlying30 ?_
 refine tzL 1 (some 12) (bzs 11 3) HT_ HW_ hHeld 30 1 gx (fun _ h=>h.1) Try.underlying30 ?_
 refine one_ (i:=2) (N:=some 13) (bzs 11 7) rfl rfl (jk2 HT_.out (by kernel_rfl)) (by decide) (fun K hK=>?_)
 refine gzO Try.func10 #[.agg #[.string x.f0,.string x.f1,.slice A2 x.f2.length c2,.slice A3 x.f3.length c3,.slice A4 x.f4.length c4,.slice A5 x.f5.length c5,.slice A6 x.f6.length c6,.slice A7 x.f7.length c7,.string x.f8,.slice A9 x.f9.length c9,.slice A10 x.f10.length c10]] ?_
 refine (Clean_c x HK.out (fun k=>k < w.heap.size) wq _ (FKof hp30 HX.out HB.out)).mono ?_
 rintro e w5 ⟨cs5,rfl,hF,hb⟩
 have hF:=Kd.FK_now hF;rw [HY.out] at hF;have HF5:=mk0 hF;clear hF
 refine ⟨_,rfl,?_⟩
 replace HB:=mk0 (jj1 HB.out HB.out.size hb)
 replace HB2:=mk0 (jj1 HB2.out HB2.out.size hb)
 replace BX:=mk0 (jj3 BX.out hb)
 replace BY:=mk0 (jj3 BY.out hb)
 clear hb
 refine hK.out _ _ ⟨BX.out,BY.out⟩ (fun hHeld=>?_)
 clear hK K
 refine nzS (some 13) ?_
 refine one_ (i:=3) (N:=some 14) (bzs 11 15) rfl rfl (jk2 HT_.out (by kernel_rfl)) (by decide) (fun K hK=>?_)
 refine gzO Try.func13 #[.agg #[.string y.f0,.string y.f1,.slice B2 y.f2.length d2,.slice B3 y.f3.length d3,.slice B4 y.f4.length d4,.slice B5 y.f5.length d5,.slice B6 y.f6.length d6,.slice B7 y.f7.length d7,.string y.f8,.slice B9 y.f9.length d9,.slice B10 y.f10.length d10],.agg cs5.toArray] ?_
 refine (R1.rsame_t y HG.out HK2.out HD.out w5 [.string y.f0,.string y.f1,.slice B2 y.f2.length d2,.slice B3 y.f3.length d3,.slice B4 y.f4.length d4,.slice B5 y.f5.length d5,.slice B6 y.f6.length d6,.slice B7 y.f7.length d7,.string y.f8,.slice B9 y.f9.length d9,.slice B10 y.f10.length d10] cs5 (k30_mk _ y m2 (Kd.jj0 k2 HB2.out) m3 (Kd.jj0 k3 HB2.out) m4 (Kd.jj0 k4 HB2.out) m5 (Kd.jj0 k5 HB2.out) m6 (Kd.jj0 k6 HB2.out) m7 (Kd.jj0 k7 HB2.out) m9 (Kd.jj0 k9 HB2.out) m10 (Kd.jj0 k10 HB2.out)) HF5.out).mono ?_
 rintro e w6 ⟨rfl,hb⟩
 refine ⟨_,rfl,?_⟩
 replace HB:=mk0 (jj1 HB.out HB.out.size hb)
 replace HB2:=mk0 (jj1 HB2.out HB2.out.size hb)
 replace BX:=mk0 (jj3 BX.out hb)
 replace BY:=mk0 (jj3 BY.out hb)
 clear hb
 refine hK.out _ _ ⟨BX.out,BY.out⟩ (fun hHeld=>?_)
 clear hK K
 refine nzS (some 14) ?_
 refine pzS 4 (some 15) (bzs 11 31) HT_ ?_
 refine tzL 5 (some 16) (bzs 11 63) HT_ HW_ hHeld 30 3 gy (fun _ h=>h.2) Try.underlying30 ?_
 refine tzL 7 (some 18) (bzs 11 191) HT_ HW_ hHeld 30 3 gy (fun _ h=>h.2) Try.underlying30 ?_
 refine one_ (i:=6) (N:=some 17) (bzs 11 255) rfl rfl (jk2 HT_.out (by kernel_rfl)) (by decide) (fun K hK=>?_)
 refine gzO Try.func14 #[.agg #[.string y.f0,.string y.f1,.slice B2 y.f2.length d2,.slice B3 y.f3.length d3,.slice B4 y.f4.length d4,.slice B5 y.f5.length d5,.slice B6 y.f6.length d6,.slice B7 y.f7.length d7,.string y.f8,.slice B9 y.f9.length d9,.slice B10 y.f10.length d10]] ?_
 refine (Uclean_c y HK2.out (fun k=>k < w2.heap.size) w6 _ (FKof hp30 HY1.out HB2.out)).mono ?_
 rintro e w7 ⟨cs7,rfl,hF,hb⟩
 have hF:=Kd.FK_now hF;rw [HY2.out] at hF;have HF7:=mk0 hF;clear hF
 refine ⟨_,rfl,?_⟩
 replace HB:=mk0 (jj1 HB.out HB.out.size hb)
 replace HB2:=mk0 (jj1 HB2.out HB2.out.size hb)
 replace BX:=mk0 (jj3 BX.out hb)
 replace BY:=mk0 (jj3 BY.out hb)
 clear hb
 refine hK.out _ _ ⟨BX.out,BY.out⟩ (fun hHeld=>?_)
 clear hK K
 refine nzS (some 17) ?_
 refine one_ (i:=8) (N:=some 19) (bzs 11 511) rfl rfl (jk2 HT_.out (by kernel_rfl)) (by decide) (fun K hK=>?_)
 refine gzO Try.func13 #[.agg cs7.toArray,.agg #[.string y.f0,.string y.f1,.slice B2 y.f2.length d2,.slice B3 y.f3.length d3,.slice B4 y.f4.length d4,.slice B5 y.f5.length d5,.slice B6 y.f6.length d6,.slice B7 y.f7.length d7,.string y.f8,.slice B9 y.f9.length d9,.slice B10 y.f10.length d10]] ?_
 refine (R1.rsame_t y HG.out HK2.out HD.out w7 cs7 [.string y.f0,.string y.f1,.slice B2 y.f2.length d2,.slice B3 y.f3.length d3,.slice B4 y.f4.length d4,.slice B5 y.f5.length d5,.slice B6 y.f6.length d6,.slice B7 y.f7.length d7,.string y.f8,.slice B9 y.f9.length d9,.slice B10 y.f10.length d10] HF7.out (k30_mk _ y m2 (Kd.jj0 k2 HB2.out) m3 (Kd.jj0 k3 HB2.out) m4 (Kd.jj0 k4 HB2.out) m5 (Kd.jj0 k5 HB2.out) m6 (Kd.jj0 k6 HB2.out) m7 (Kd.jj0 k7 HB2.out) m9 (Kd.jj0 k9 HB2.out) m10 (Kd.jj0 k10 HB2.out))).mono ?_
 rintro e w8 ⟨rfl,hb⟩
 refine ⟨_,rfl,?_⟩
 replace HB:=mk0 (jj1 HB.out HB.out.size hb)
 replace HB2:=mk0 (jj1 HB2.out HB2.out.size hb)
 replace BX:=mk0 (jj3 BX.out hb)
 replace BY:=mk0 (jj3 BY.out hb)
 clear hb
 refine hK.out _ _ ⟨BX.out,BY.out⟩ (fun hHeld=>?_)
 clear hK K
 refine nzS (some 19) ?_
 refine pzS 9 (some 20) (bzs 11 1023) HT_ ?_
 refine pzS 10 (some 2) (bzs 11 2047) HT_ ?_
 refine done_ (done_of HT_.out (by kernel_rfl)) ?_
 go_wp2
 go_ret
 exact ⟨rfl,HB.out⟩
theorem cleans_c (x:S30) (gx:good30 x) (kx:bk30 x≤4194304) (w:World) (cs:List Value) (hx:k30.K w x cs):Calls Try.prog 5 #[.agg cs.toArray] w fun e w'=>e = .returned (.bool true)∧Below w.heap.size w w':=by
 obtain ⟨b,hfew⟩:=few_e x gx
 cases b with
 | false=>exact cleans_few x gx w cs hx hfew
 | true=>exact cleans_ok x gx w cs hx hfew (clFile x) rfl (clFile_2 x) (by omega) (good_clFile gx) (by have:=bk_clFile x;omega) (hL_clFile x)
end Go.Proofs.Ytheoafenehckbaa.Ur
