/- A clean file is read again from its bytes (UndescBack). -/
import Derived.Test.YtheoafenehckbaaKUk
import Derived.Test.YtheoafenehckbaaKSh
import Derived.Test.YtheoafenehckbaaKCw
import Derived.Test.YtheoafenehckbaaKCf
import Derived.Test.YtheoafenehckbaaKFw
import Derived.Test.YtheoafenehckbaaKBd
import Derived.Test.YtheoafenehckbaaKHg
import Derived.Test.YtheoafenehckbaaKT4
import Derived.Test.YtheoafenehckbaaKSh
import Derived.LoopN
import Derived.RegionTactic
set_option maxHeartbeats 8000000
set_option maxRecDepth 100000
namespace Go.Proofs.Ytheoafenehckbaa.Ur
open Go.RowKit GUndescBack YtheoafenehckbaaW.PrintWords YtheoafenehckbaaW.PrintLast YtheoafenehckbaaW.PrintMore Rk Uq Sp Vb Dp
set_option linter.unusedVariables false
set_option linter.unusedSimpArgs false
theorem FK_of {α:Type} {d:Kd α} (hd:Kd.Heap d) {w W:World} {x:α} {cs:List Value} (h:d.K w x cs) (hb:Below w.heap.size w W):Kd.FK d W (fun k=>k < w.heap.size) x cs:=fun W' hW=>hd.K (fun k hk=>(hW k hk (Nat.lt_of_lt_of_le hk hb.size)).trans (hb.block k hk)) h
theorem okN_ne {n m g:Nat}:n≤g→g < m→∀ k,okN (fun k=>k < n) m k→k≠g:=by
 intro h1 h2 k h3
 unfold okN at h3
 omega
def BkT (x:S30) (n:Nat) (v:Value):Prop:=∀ (w:World) (cs:List Value),k30.K w x cs→Calls Try.prog n #[.agg cs.toArray] w fun e w'=>e = .returned v∧Below w.heap.size w w'
theorem back_no (x:S30) (w:World) (cs:List Value) (hx:k30.K w x cs) (b d f:Bool) (hfew:BkT x 7 (.bool b)) (D:Int) (hd:decide (D > 64)=d) (hdeep:BkT x 8 (.int .i64 D)) (hbnd:BkT x 9 (.bool f)) (key:b=false∨(b=true∧d=true)∨(b=true∧d=false∧f=false)):Calls Try.prog 3 #[.agg cs.toArray] w fun e w'=>e = .returned (.bool true)∧Below w.heap.size w w':=by
 unfold BkT at hfew hdeep hbnd
 obtain ⟨A2,c2,A3,c3,A4,c4,A5,c5,A6,c6,A7,c7,A9,c9,A10,c10,rfl,l2,g2,l3,g3,l4,g4,l5,g5,l6,g6,l7,g7,l9,g9,l10,g10⟩:=k30_open hx
 rcases key with rfl|⟨rfl,rfl⟩|⟨rfl,rfl,rfl⟩
 all_goals
  go_enter Try.func3,Try.ntmps3
  go_wp2_with (first|((with_reducible refine jjq (N:=1) rfl ?_);refine bzX 1 #[.string x.f0,.string x.f1,.slice A2 x.f2.length c2,.slice A3 x.f3.length c3,.slice A4 x.f4.length c4,.slice A5 x.f5.length c5,.slice A6 x.f6.length c6,.slice A7 x.f7.length c7,.string x.f8,.slice A9 x.f9.length c9,.slice A10 x.f10.length c10] 30 ?_;intro gx hgx wa hbox hb;have HB:=mk0 hb;have BX:=mk0 hbox;have HGX:=mk0 (Nat.le_of_eq hgx.symm);clear hgx hbox hb)|((with_reducible refine gate_load (ty:=30) (p:=1) rfl ?_);(try (refine jj6 (by rfl) ?_;dsimp only));refine load_box 30 1 gx _ _ BX.out Try.underlying30 ?_)|(go_at_call 6;(with_reducible refine (awake_c _).mono ?_);rintro e w1 ⟨rfl,hb⟩;have n0_:=mk0 (jj1 HB.out HB.out.size hb);have b0_:=mk0 (jj3 BX.out hb);clear hb HB BX;have HB:=n0_;clear n0_;have BX:=b0_;clear b0_)|(go_at_call 7;(with_reducible refine (hfew _ _ (k30_mk _ x l2 (Kd.jj0 g2 HB.out) l3 (Kd.jj0 g3 HB.out) l4 (Kd.jj0 g4 HB.out) l5 (Kd.jj0 g5 HB.out) l6 (Kd.jj0 g6 HB.out) l7 (Kd.jj0 g7 HB.out) l9 (Kd.jj0 g9 HB.out) l10 (Kd.jj0 g10 HB.out))).mono ?_);rintro e w1 ⟨rfl,hb⟩;have n0_:=mk0 (jj1 HB.out HB.out.size hb);have b0_:=mk0 (jj3 BX.out hb);clear hb HB BX;have HB:=n0_;clear n0_;have BX:=b0_;clear b0_)|(go_at_call 8;(with_reducible refine (hdeep _ _ (k30_mk _ x l2 (Kd.jj0 g2 HB.out) l3 (Kd.jj0 g3 HB.out) l4 (Kd.jj0 g4 HB.out) l5 (Kd.jj0 g5 HB.out) l6 (Kd.jj0 g6 HB.out) l7 (Kd.jj0 g7 HB.out) l9 (Kd.jj0 g9 HB.out) l10 (Kd.jj0 g10 HB.out))).mono ?_);rintro e w1 ⟨rfl,hb⟩;have n0_:=mk0 (jj1 HB.out HB.out.size hb);have b0_:=mk0 (jj3 BX.out hb);clear hb HB BX;have HB:=n0_;clear n0_;have BX:=b0_;clear b0_)|(go_at_call 9;(with_reducible refine (hbnd _ _ (k30_mk _ x l2 (Kd.jj0 g2 HB.out) l3 (Kd.jj0 g3 HB.out) l4 (Kd.jj0 g4 HB.out) l5 (Kd.jj0 g5 HB.out) l6 (Kd.jj0 g6 HB.out) l7 (Kd.jj0 g7 HB.out) l9 (Kd.jj0 g9 HB.out) l10 (Kd.jj0 g10 HB.out))).mono ?_);rintro e w1 ⟨rfl,hb⟩;have n0_:=mk0 (jj1 HB.out HB.out.size hb);have b0_:=mk0 (jj3 BX.out hb);clear hb HB BX;have HB:=n0_;clear n0_;have BX:=b0_;clear b0_))
  go_ret
  exact ⟨rfl,HB.out⟩
theorem back_ok (x:S30) (gx:good30 x) (w:World) (cs:List Value) (hx:k30.K w x cs) (hfew:BkT x 7 (.bool true)) (D:Int) (hd:decide (D > 64)=false) (hdeep:BkT x 8 (.int .i64 D)) (hbnd:BkT x 9 (.bool true)) (y:S30) (hy:clFile x=y) (kx:bk30 x≤4294967296) (gy:good30 y) (ky:bk30 y≤4294967296) (dy:hL y.f4≤64) (bb:Bytes (bFile y)) (ll:(bFile y).length < 4294967296) (he:uFile (uMessage 64) (bFile y) = .ok y):Calls Try.prog 3 #[.agg cs.toArray] w fun e w'=>e = .returned (.bool true)∧Below w.heap.size w w':=by
 unfold BkT at hfew hdeep hbnd
 obtain ⟨A2,c2,A3,c3,A4,c4,A5,c5,A6,c6,A7,c7,A9,c9,A10,c10,rfl,l2,g2,l3,g3,l4,g4,l5,g5,l6,g6,l7,g7,l9,g9,l10,g10⟩:=k30_open hx
 have HX:=mk0 (k30_mk w x l2 g2 l3 g3 l4 g4 l5 g5 l6 g6 l7 g7 l9 g9 l10 g10)
 have HY:=mk0 hy
 have HK:=mk0 kx
 have HG:=mk0 gy
 have HK2:=mk0 ky
 have HD:=mk0 dy
 have HBB:=mk0 bb
 have HLL:=mk0 ll
 have HE:=mk0 he
 clear hy kx gy ky dy bb ll he
 go_enter Try.func3,Try.ntmps3
 go_wp2_with (first|((with_reducible refine jjq (N:=1) rfl ?_);refine bzX 1 #[.string x.f0,.string x.f1,.slice A2 x.f2.length c2,.slice A3 x.f3.length c3,.slice A4 x.f4.length c4,.slice A5 x.f5.length c5,.slice A6 x.f6.length c6,.slice A7 x.f7.length c7,.string x.f8,.slice A9 x.f9.length c9,.slice A10 x.f10.length c10] 30 ?_;intro gx hgx wa hbox hb;have HB:=mk0 hb;have BX:=mk0 hbox;have HGX:=mk0 (Nat.le_of_eq hgx.symm);clear hgx hbox hb)|((with_reducible refine gate_load (ty:=30) (p:=1) rfl ?_);(try (refine jj6 (by rfl) ?_;dsimp only));refine load_box 30 1 gx _ _ BX.out Try.underlying30 ?_)|((with_reducible refine gate_load (ty:=30) (p:=5) rfl ?_);(try (refine jj6 (by rfl) ?_;dsimp only));refine load_box 30 5 gy _ _ BY.out Try.underlying30 ?_)|(go_at_call 6;(with_reducible refine (awake_c _).mono ?_);rintro e w1 ⟨rfl,hb⟩;have n0_:=mk0 (jj1 HB.out HB.out.size hb);have b0_:=mk0 (jj3 BX.out hb);clear hb HB BX;have HB:=n0_;clear n0_;have BX:=b0_;clear b0_)|(go_at_call 7;(with_reducible refine (hfew _ _ (k30_mk _ x l2 (Kd.jj0 g2 HB.out) l3 (Kd.jj0 g3 HB.out) l4 (Kd.jj0 g4 HB.out) l5 (Kd.jj0 g5 HB.out) l6 (Kd.jj0 g6 HB.out) l7 (Kd.jj0 g7 HB.out) l9 (Kd.jj0 g9 HB.out) l10 (Kd.jj0 g10 HB.out))).mono ?_);rintro e w1 ⟨rfl,hb⟩;have n0_:=mk0 (jj1 HB.out HB.out.size hb);have b0_:=mk0 (jj3 BX.out hb);clear hb HB BX;have HB:=n0_;clear n0_;have BX:=b0_;clear b0_)|(go_at_call 8;(with_reducible refine (hdeep _ _ (k30_mk _ x l2 (Kd.jj0 g2 HB.out) l3 (Kd.jj0 g3 HB.out) l4 (Kd.jj0 g4 HB.out) l5 (Kd.jj0 g5 HB.out) l6 (Kd.jj0 g6 HB.out) l7 (Kd.jj0 g7 HB.out) l9 (Kd.jj0 g9 HB.out) l10 (Kd.jj0 g10 HB.out))).mono ?_);rintro e w1 ⟨rfl,hb⟩;have n0_:=mk0 (jj1 HB.out HB.out.size hb);have b0_:=mk0 (jj3 BX.out hb);clear hb HB BX;have HB:=n0_;clear n0_;have BX:=b0_;clear b0_)|(go_at_call 9;(with_reducible refine (hbnd _ _ (k30_mk _ x l2 (Kd.jj0 g2 HB.out) l3 (Kd.jj0 g3 HB.out) l4 (Kd.jj0 g4 HB.out) l5 (Kd.jj0 g5 HB.out) l6 (Kd.jj0 g6 HB.out) l7 (Kd.jj0 g7 HB.out) l9 (Kd.jj0 g9 HB.out) l10 (Kd.jj0 g10 HB.out))).mono ?_);rintro e w1 ⟨rfl,hb⟩;have n0_:=mk0 (jj1 HB.out HB.out.size hb);have b0_:=mk0 (jj3 BX.out hb);clear hb HB BX;have HB:=n0_;clear n0_;have BX:=b0_;clear b0_)|(go_at_call 10;(with_reducible refine (Clean_c x HK.out (fun k=>k < w.heap.size) _ _ (FK_of hp30 HX.out HB.out)).mono ?_);rintro e w2 ⟨cs2,rfl,hF,hb⟩;have HNE:=mk0 (show ∀ k,okN (fun k=>k < w.heap.size) _ k→k≠gx from okN_ne HGX.out (jk4 BX.out));rw [HY.out] at hF;obtain ⟨B2,d2,B3,d3,B4,d4,B5,d5,B6,d6,B7,d7,B9,d9,B10,d10,ecs,m2,k2,m3,k3,m4,k4,m5,k5,m6,k6,m7,k7,m9,k9,m10,k10⟩:=k30_openF hF;subst ecs;clear hF;have n0_:=mk0 (jj1 HB.out HB.out.size hb);have b0_:=mk0 (jj3 BX.out hb);clear hb HB BX;have HB:=n0_;clear n0_;have BX:=b0_;clear b0_)|((with_reducible refine jjz (t:=30) (p:=1) rfl ?_);refine Ur.store_box 30 1 23 gx _ BX.out ?_;intro w3 hS hbS hkS;have n0_:=mk0 (hbS _ _ HGX.out HB.out);have kk2:=Kd.F_now (Kd.F_step k2 (fun k hk _=>hkS k (HNE.out k hk)));have kk3:=Kd.F_now (Kd.F_step k3 (fun k hk _=>hkS k (HNE.out k hk)));have kk4:=Kd.F_now (Kd.F_step k4 (fun k hk _=>hkS k (HNE.out k hk)));have kk5:=Kd.F_now (Kd.F_step k5 (fun k hk _=>hkS k (HNE.out k hk)));have kk6:=Kd.F_now (Kd.F_step k6 (fun k hk _=>hkS k (HNE.out k hk)));have kk7:=Kd.F_now (Kd.F_step k7 (fun k hk _=>hkS k (HNE.out k hk)));have kk9:=Kd.F_now (Kd.F_step k9 (fun k hk _=>hkS k (HNE.out k hk)));have kk10:=Kd.F_now (Kd.F_step k10 (fun k hk _=>hkS k (HNE.out k hk)));clear HB BX k2 k3 k4 k5 k6 k7 k9 k10 hbS hkS;have HB:=n0_;have BX:=mk0 hS;have HB3:=mk0 (Below.refl w3.heap.size w3);clear n0_ hS)|(go_at_call 11;(with_reducible refine (R1.rbytes_ok y HG.out HK2.out _ [.string y.f0,.string y.f1,.slice B2 y.f2.length d2,.slice B3 y.f3.length d3,.slice B4 y.f4.length d4,.slice B5 y.f5.length d5,.slice B6 y.f6.length d6,.slice B7 y.f7.length d7,.string y.f8,.slice B9 y.f9.length d9,.slice B10 y.f10.length d10] (k30_mk _ y m2 (Kd.jj0 kk2 HB3.out) m3 (Kd.jj0 kk3 HB3.out) m4 (Kd.jj0 kk4 HB3.out) m5 (Kd.jj0 kk5 HB3.out) m6 (Kd.jj0 kk6 HB3.out) m7 (Kd.jj0 kk7 HB3.out) m9 (Kd.jj0 kk9 HB3.out) m10 (Kd.jj0 kk10 HB3.out)) HD.out).mono ?_);rintro e w1 ⟨v_,rfl,hR,hb⟩;obtain ⟨R_,r_,ex_⟩:=Kd.jk5 hR;subst ex_;have HCB:=mk0 (Kd.jj8 hR).2.2;have HLB:=mk0 (Kd.jj8 hR).2.1;clear hR;have n0_:=mk0 (jj1 HB.out HB.out.size hb);have n1_:=mk0 (jj1 HB3.out HB3.out.size hb);have b0_:=mk0 (jj3 BX.out hb);clear hb HB HB3 BX;have HB:=n0_;clear n0_;have HB3:=n1_;clear n1_;have BX:=b0_;clear b0_)|(go_at_call 12;(with_reducible refine (fok (bFile y) R_ r_ HBB.out HLL.out (by exact HLB.out) _ HCB.out y HE.out).mono ?_);rintro e w5 ⟨cs_,rfl,hK_,hb⟩;obtain ⟨E2,e2,E3,e3,E4,e4,E5,e5,E6,e6,E7,e7,E9,e9,E10,e10,ecs_,n2,q2,n3,q3,n4,q4,n5,q5,n6,q6,n7,q7,n9,q9,n10,q10⟩:=k30_open hK_;subst ecs_;clear hK_;have HB5:=mk0 (Below.refl w5.heap.size w5);have n0_:=mk0 (jj1 HB.out HB.out.size hb);have n1_:=mk0 (jj1 HB3.out HB3.out.size hb);have b0_:=mk0 (jj3 BX.out hb);clear hb HB HB3 BX;have HB:=n0_;clear n0_;have HB3:=n1_;clear n1_;have BX:=b0_;clear b0_)|((with_reducible refine jjq (N:=5) rfl ?_);refine bzX 5 #[.string (⟨#[]⟩:ByteArray),.string (⟨#[]⟩:ByteArray),.slice none 0 0,.slice none 0 0,.slice none 0 0,.slice none 0 0,.slice none 0 0,.slice none 0 0,.string (⟨#[]⟩:ByteArray),.slice none 0 0,.slice none 0 0] 30 ?_;intro gy hgy w6 hbox hb;have HGY:=mk0 (Nat.le_of_eq hgy.symm);have HGYW:=mk0 (show w.heap.size≤gy from hgy ▸ HB.out.size);have HGY3:=mk0 (show w3.heap.size≤gy from hgy ▸ HB3.out.size);have HNE2:=mk0 (show gx≠gy from hgy ▸ Nat.ne_of_lt (jk4 BX.out));replace HB:=mk0 (jj1 HB.out HB.out.size hb);replace HB3:=mk0 (jj1 HB3.out HB3.out.size hb);replace BX:=mk0 (jj3 BX.out hb);have BY:=mk0 hbox;have HB5:=mk0 hb;clear hgy hbox hb)|((with_reducible refine jjz (t:=30) (p:=5) rfl ?_);refine Ur.store_box 30 5 32 gy _ BY.out ?_;intro w7 hS hbS hkS;have n0_:=mk0 (hbS _ _ HGYW.out HB.out);have n1_:=mk0 (hbS _ _ HGY3.out HB3.out);have n2_:=mk0 (hbS _ _ HGY.out HB5.out);have n3_:=mk0 ((hkS gx HNE2.out).trans BX.out);clear HB HB3 HB5 BX BY hbS hkS;have HB:=n0_;have HB3:=n1_;have HB5:=n2_;have BX:=n3_;have BY:=mk0 hS;clear n0_ n1_ n2_ n3_ hS)|(go_at_call 13;(with_reducible refine (R1.rsame_t y HG.out HK2.out HD.out _ [.string y.f0,.string y.f1,.slice E2 y.f2.length e2,.slice E3 y.f3.length e3,.slice E4 y.f4.length e4,.slice E5 y.f5.length e5,.slice E6 y.f6.length e6,.slice E7 y.f7.length e7,.string y.f8,.slice E9 y.f9.length e9,.slice E10 y.f10.length e10] [.string y.f0,.string y.f1,.slice B2 y.f2.length d2,.slice B3 y.f3.length d3,.slice B4 y.f4.length d4,.slice B5 y.f5.length d5,.slice B6 y.f6.length d6,.slice B7 y.f7.length d7,.string y.f8,.slice B9 y.f9.length d9,.slice B10 y.f10.length d10] (k30_mk _ y n2 (Kd.jj0 q2 HB5.out) n3 (Kd.jj0 q3 HB5.out) n4 (Kd.jj0 q4 HB5.out) n5 (Kd.jj0 q5 HB5.out) n6 (Kd.jj0 q6 HB5.out) n7 (Kd.jj0 q7 HB5.out) n9 (Kd.jj0 q9 HB5.out) n10 (Kd.jj0 q10 HB5.out)) (k30_mk _ y m2 (Kd.jj0 kk2 HB3.out) m3 (Kd.jj0 kk3 HB3.out) m4 (Kd.jj0 kk4 HB3.out) m5 (Kd.jj0 kk5 HB3.out) m6 (Kd.jj0 kk6 HB3.out) m7 (Kd.jj0 kk7 HB3.out) m9 (Kd.jj0 kk9 HB3.out) m10 (Kd.jj0 kk10 HB3.out))).mono ?_);rintro e w8 ⟨rfl,hb⟩;replace HB:=mk0 (jj1 HB.out HB.out.size hb);clear hb))
 go_ret
 exact ⟨rfl,HB.out⟩
theorem back_c (x:S30) (gx:good30 x) (kx:bk30 x≤4194304) (w:World) (cs:List Value) (hx:k30.K w x cs):Calls Try.prog 3 #[.agg cs.toArray] w fun e w'=>e = .returned (.bool true)∧Below w.heap.size w w':=by
 obtain ⟨b,hfew⟩:=few_e x gx
 have hdeep:=fun (w:World) (cs:List Value) (hK:k30.K w x cs)=>refdeep_c x gx w cs hK
 have hbnd:=fun (w:World) (cs:List Value) (hK:k30.K w x cs)=>bounded_c x gx w cs hK
 cases b with
 | false=>exact back_no x w cs hx _ _ _ hfew _ rfl hdeep hbnd (.inl rfl)
 | true=>
  cases hd:decide (dp x.f4 > 64) with
  | true=>exact back_no x w cs hx _ _ _ hfew _ hd hdeep hbnd (.inr (.inl ⟨rfl,rfl⟩))
  | false=>
   cases hb:bdB x with
   | false=>rw [hb] at hbnd;exact back_no x w cs hx _ _ _ hfew _ hd hdeep hbnd (.inr (.inr ⟨rfl,rfl,rfl⟩))
   | true=>
    rw [hb] at hbnd
    have wfy:=wf_clFile x gx hb
    have ky:=bk_clFile x
    have gy:=good_clFile gx
    have dy:=hL_clFile x
    exact back_ok x gx w cs hx hfew _ hd hdeep hbnd (clFile x) rfl (by omega) gy (by omega) dy (bFile_bytes _ wfy) (by have:=len30_ (clFile x) (by omega);omega) (uFile_b (clFile x) (uMessage 64) (fun y hy=>uMessage_b 64 y (wfy.out.1 y hy) (by have:=hL_mem hy;omega) (by have h_:=sumle bk76 (clFile x).f4 y hy;have h2:((clFile x).f4.map bk76).sum≤bk30 (clFile x):=(by unfold bk30;omega);omega)) wfy (by omega))
end Go.Proofs.Ytheoafenehckbaa.Ur
