/- undesc's cleanMessage. -/
import Derived.Test.YtheoafenehckbaaQDg
import Derived.Test.YtheoafenehckbaaQSh
import Derived.LoopN
import Derived.RegionTactic
set_option maxHeartbeats 8000000
set_option maxRecDepth 100000
namespace Go.Proofs.Ytheoafenehckbaa.Ur
open Go.RowKit GUndescBack YtheoafenehckbaaW.PrintWords YtheoafenehckbaaW.PrintLast YtheoafenehckbaaW.PrintMore Rk
set_option linter.unusedVariables false
set_option linter.unusedSimpArgs false
def ClnM (n:Nat) (a:Int):Prop:=∀ (x:S76),bk76 x≤4294967296→∀ (okc:Nat→Prop) (w:World) (cs:List Value),Kd.FK k76 w okc x cs→
 Calls Try.prog 43 #[.agg cs.toArray,.int .i64 a] w fun e w'=>∃ cs':List Value,e = .returned (.agg cs'.toArray)∧Kd.FK k76 w' (okN okc w.heap.size) (clMx n x) cs'∧Below w.heap.size w w'
theorem clo68_c (n:Nat) (a:Int) (pa:Nat) (h:ClnM n (wrap64 (a+1))) (x:S76) (hbk:bk76 x≤4294967296) (okc:Nat→Prop) (w:World) (cs:List Value) (hx:Kd.FK k76 w okc x cs) (hpa:w.heap[pa]?=some (.cells #[.int .i64 a] 3 (0,0))) :
 Calls Try.prog 68 #[.agg cs.toArray,.pointer (some ⟨pa,0,none⟩)] w fun e w'=>∃ cs':List Value,e = .returned (.agg cs'.toArray)∧Kd.FK k76 w' (okN okc w.heap.size) (clMx n x) cs'∧Below w.heap.size w w':=by
 have HX:=mk0 (Kd.FK_bound hx)
 obtain ⟨A1,c1,A2,c2,A3,c3,A4,c4,A5,c5,A6,c6,A7,c7,A8,c8,A9,c9,A10,c10,rfl,l1,g1,l2,g2,l3,g3,l4,g4,l5,g5,l6,g6,l7,g7,l8,g8,l9,g9,l10,g10⟩:=k76_openF hx
 have HH:=mk0 h
 have HK:=mk0 hbk
 clear h hbk
 go_enter Try.func68,Try.ntmps68
 go_wp2_with (first|((with_reducible refine jk0 (N:=2) rfl ?_);refine bzX 2 #[.string x.f0,.slice A1 x.f1.length c1,.slice A2 x.f2.length c2,.slice A3 x.f3.length c3,.slice A4 x.f4.length c4,.slice A5 x.f5.length c5,.slice A6 x.f6.length c6,.slice A7 x.f7.length c7,.slice A8 x.f8.length c8,.slice A9 x.f9.length c9,.slice A10 x.f10.length c10] 76 ?_;intro gx hgx wa hbox hb;have HB:=mk0 hb;have BX0:=mk0 hbox;clear hgx hbox hb)|((with_reducible refine jk0 (N:=3) rfl ?_);refine bzX 3 #[.string (⟨#[]⟩:ByteArray),.slice none 0 0,.slice none 0 0,.slice none 0 0,.slice none 0 0,.slice none 0 0,.slice none 0 0,.slice none 0 0,.slice none 0 0,.slice none 0 0,.slice none 0 0] 76 ?_;intro gr hgx wb hbox hb;have HB1:=mk0 (jj1 HB.out HB.out.size hb);have BX:=mk0 (jj3 BX0.out hb);have B2:=mk0 hbox;have HG2:=mk0 (show w.heap.size≤gr from hgx ▸ HB.out.size);have ka_:wb.cell? ⟨pa,0,none⟩=some (.int .i64 a:Value):=(blk_cell (jj3 hpa HB1.out) 0).trans rfl;clear HB BX0 hgx hbox hb)|((with_reducible refine gate_load (ty:=76) (p:=2) rfl ?_);refine load_box 76 2 gx _ _ BX.out Try.underlying76 ?_))
 refine (HH.out x HK.out (fun k=>okc k∧k < w.heap.size) wb _ (Kd.FK_below HX.out HB1.out)).mono ?_
 rintro e w3 ⟨csx,rfl,hF,hb⟩
 have HB3:=mk0 (jj1 HB1.out HB1.out.size hb)
 have B3:=mk0 (jj3 B2.out hb)
 have HG3:=mk0 (blk_lt B2.out)
 obtain ⟨E1,e1,E2,e2,E3,e3,E4,e4,E5,e5,E6,e6,E7,e7,E8,e8,E9,e9,E10,e10,ecs,m1,k1,m2,k2,m3,k3,m4,k4,m5,k5,m6,k6,m7,k7,m8,k8,m9,k9,m10,k10⟩:=k76_openF hF
 subst ecs
 have HF:=mk0 hF
 clear hF hb B2 BX ka_ k1 k2 k3 k4 k5 k6 k7 k8 k9 k10
 go_wp2_with (first|((with_reducible refine jjz (t:=76) (p:=3) rfl ?_);refine Ur.store_box 76 3 7 gr _ B3.out ?_;intro w9 hS hbS hkS;have B9:=mk0 hS;have HB9:=mk0 (hbS _ _ HG2.out HB3.out);have HK9:=mk0 hkS;clear hS hbS hkS))
 refine bodyPost_ret (res_c1 rfl _ _ gr 76 _ (0,0) _ rfl B9.out Try.underlying76 rfl (by kernel_rfl)) rfl ?_
 have h0:=HG2.out
 have h1:=HG3.out
 have h2:=HB1.out.size
 refine ⟨_,rfl,Kd.FK_mono (Kd.FK_step HF.out (fun k hk _=>HK9.out k (fun e=>by unfold okN at hk;omega))) (fun k hk=>?_),HB9.out⟩
 unfold okN at hk ⊢
 rcases hk with hk|hk
 · exact .inl hk.1
 · exact .inr (by omega)
theorem clo42_c (n:Nat) (h:ClnM n 1) (x:S76) (hbk:bk76 x≤4294967296) (okc:Nat→Prop) (w:World) (cs:List Value) (hx:Kd.FK k76 w okc x cs) :
 Calls Try.prog 42 #[.agg cs.toArray] w fun e w'=>∃ cs':List Value,e = .returned (.agg cs'.toArray)∧Kd.FK k76 w' (okN okc w.heap.size) (clMx n x) cs'∧Below w.heap.size w w':=by
 have HX:=mk0 (Kd.FK_bound hx)
 obtain ⟨A1,c1,A2,c2,A3,c3,A4,c4,A5,c5,A6,c6,A7,c7,A8,c8,A9,c9,A10,c10,rfl,l1,g1,l2,g2,l3,g3,l4,g4,l5,g5,l6,g6,l7,g7,l8,g8,l9,g9,l10,g10⟩:=k76_openF hx
 have HH:=mk0 h
 have HK:=mk0 hbk
 clear h hbk
 go_enter Try.func42,Try.ntmps42
 go_wp2_with (first|((with_reducible refine jk0 (N:=1) rfl ?_);refine bzX 1 #[.string x.f0,.slice A1 x.f1.length c1,.slice A2 x.f2.length c2,.slice A3 x.f3.length c3,.slice A4 x.f4.length c4,.slice A5 x.f5.length c5,.slice A6 x.f6.length c6,.slice A7 x.f7.length c7,.slice A8 x.f8.length c8,.slice A9 x.f9.length c9,.slice A10 x.f10.length c10] 76 ?_;intro gx hgx wa hbox hb;have HB:=mk0 hb;have BX0:=mk0 hbox;clear hgx hbox hb)|((with_reducible refine jk0 (N:=2) rfl ?_);refine bzX 2 #[.string (⟨#[]⟩:ByteArray),.slice none 0 0,.slice none 0 0,.slice none 0 0,.slice none 0 0,.slice none 0 0,.slice none 0 0,.slice none 0 0,.slice none 0 0,.slice none 0 0,.slice none 0 0] 76 ?_;intro gr hgx wb hbox hb;have HB1:=mk0 (jj1 HB.out HB.out.size hb);have BX:=mk0 (jj3 BX0.out hb);have B2:=mk0 hbox;have HG2:=mk0 (show w.heap.size≤gr from hgx ▸ HB.out.size);clear HB BX0 hgx hbox hb)|((with_reducible refine gate_load (ty:=76) (p:=1) rfl ?_);refine load_box 76 1 gx _ _ BX.out Try.underlying76 ?_))
 refine (HH.out x HK.out (fun k=>okc k∧k < w.heap.size) wb _ (Kd.FK_below HX.out HB1.out)).mono ?_
 rintro e w3 ⟨csx,rfl,hF,hb⟩
 have HB3:=mk0 (jj1 HB1.out HB1.out.size hb)
 have B3:=mk0 (jj3 B2.out hb)
 have HG3:=mk0 (blk_lt B2.out)
 obtain ⟨E1,e1,E2,e2,E3,e3,E4,e4,E5,e5,E6,e6,E7,e7,E8,e8,E9,e9,E10,e10,ecs,m1,k1,m2,k2,m3,k3,m4,k4,m5,k5,m6,k6,m7,k7,m8,k8,m9,k9,m10,k10⟩:=k76_openF hF
 subst ecs
 have HF:=mk0 hF
 clear hF hb B2 BX k1 k2 k3 k4 k5 k6 k7 k8 k9 k10
 go_wp2_with (first|((with_reducible refine jjz (t:=76) (p:=2) rfl ?_);refine Ur.store_box 76 2 4 gr _ B3.out ?_;intro w9 hS hbS hkS;have B9:=mk0 hS;have HB9:=mk0 (hbS _ _ HG2.out HB3.out);have HK9:=mk0 hkS;clear hS hbS hkS))
 refine bodyPost_ret (res_c1 rfl _ _ gr 76 _ (0,0) _ rfl B9.out Try.underlying76 rfl (by kernel_rfl)) rfl ?_
 have h0:=HG2.out
 have h1:=HG3.out
 have h2:=HB1.out.size
 refine ⟨_,rfl,Kd.FK_mono (Kd.FK_step HF.out (fun k hk _=>HK9.out k (fun e=>by unfold okN at hk;omega))) (fun k hk=>?_),HB9.out⟩
 unfold okN at hk ⊢
 rcases hk with hk|hk
 · exact .inl hk.1
 · exact .inr (by omega)
theorem eachM42_c (n:Nat) (hH:ClnM n 1) (l:List S76) (hb:(l.map bk76).sum≤4294967296) (okp:Nat→Prop) (A0:Option Addr) (c0:Nat) (w:World) (HF:Kd.F k76 w okp A0 l.length l) :
 Calls Try.prog 41 #[.slice A0 l.length c0,.func (.func 42) #[] #[]] w fun e w'=>∃ A c,e = .returned (.slice A l.length c)∧l.length≤c∧Kd.F k76 w' (okN okp w.heap.size) A l.length (l.map (clMx n))∧Below w.heap.size w w':=by
 have HFa:=mk0 (Kd.F_bound HF)
 have HLL:Aside0 (∀ y∈l,bk76 y≤4294967296):=⟨fun y hy=>Nat.le_trans (sumle bk76 l y hy) hb⟩
 have HL:Aside0 (l.length≤4294967296):=⟨Nat.le_trans (lensum bk76 bk76_pos l) hb⟩
 have HHH:=mk0 hH
 clear hH
 clear hb HF
 go_enter Try.func41,Try.ntmps41
 go_wp2
 go_loopg [5,10] l.length (fun kq v5 v10 w'=>∃ (i:Nat) (AO:Option Addr) (cO:Nat),v5 = .slice AO i cO∧v10 = .int .i64 (i:Int)∧Aside0 (i+kq=l.length)∧Aside0 (Below w.heap.size w w')∧Aside0 (Kd.N k76 76 w' w.heap.size (okN okp w.heap.size) (.slice AO i cO) ((l.take i).map (clMx n))))
 case atStart=>
  exact ⟨0,none,0,rfl,rfl,⟨by omega⟩,⟨Below.refl _ _⟩,⟨Kd.N_nil _ _ _ _ _⟩⟩
 case round=>
  obtain ⟨i,AO,cO,rfl,rfl,HI,HB,HN⟩:=hrel
  by_cases hlt:i < l.length
  · have d0:=lt_d hlt
    have HLT:=mk0 hlt
    have p0:=le_p i
    have q0:=lt_p hlt
    have hwp:=mk0 (wrap_lt i l.length hlt HL.out)
    obtain ⟨ad,c,ea,hcl,hFK,hcc,-⟩:=Kd.F_get HFa.out z76 (i:Int) (Int.natCast_nonneg _) (Int.ofNat_lt.2 hlt)
    rw [Int.toNat_natCast] at hFK hcc
    replace hcc:=fun j u h=>pw_cell_below HB.out (hcc j u h)
    have hxm:l.getD i z76∈l:=by rw [List.getD_eq_getElem?_getD,List.getElem?_eq_getElem hlt];exact List.getElem_mem hlt
    have hss:(l.take i).map (clMx n)++[(clMx n) (l.getD i z76)]=(l.take (i+1)).map (clMx n):=by rw [List.take_add_one,List.map_append];simp [hlt]
    obtain ⟨x,hx⟩:∃ x,l.getD i z76=x:=⟨_,rfl⟩
    rw [hx] at hFK hxm hss
    have HFK:=mk0 hFK
    obtain ⟨A1,c1,A2,c2,A3,c3,A4,c4,A5,c5,A6,c6,A7,c7,A8,c8,A9,c9,A10,c10,rfl,l1,g1,l2,g2,l3,g3,l4,g4,l5,g5,l6,g6,l7,g7,l8,g8,l9,g9,l10,g10⟩:=k76_openF hFK
    have HBX:=mk0 (HLL.out x hxm)
    have HSS:=mk0 hss
    have HS:=mk0 (Nat.le_refl wr.heap.size)
    have HBR:=mk0 (Below.refl wr.heap.size wr)
    clear hss hx hxm hcl
    subst ea
    cases gk with
    | zero=>exact absurd HI.out (fun h=>Nat.ne_of_lt hlt h)
    | succ k1=>
     go_wp2_with (first|((with_reducible refine gate_load (ty:=76) (p:=12) rfl ?_);refine load_elem 76 12 ad (i*11) [.string x.f0,.slice A1 x.f1.length c1,.slice A2 x.f2.length c2,.slice A3 x.f3.length c3,.slice A4 x.f4.length c4,.slice A5 x.f5.length c5,.slice A6 x.f6.length c6,.slice A7 x.f7.length c7,.slice A8 x.f8.length c8,.slice A9 x.f9.length c9,.slice A10 x.f10.length c10] _ hcc Try.underlying76 ?_)|((with_reducible refine jk0 (N:=7) rfl ?_);refine bzX 7 #[.string (⟨#[]⟩:ByteArray),.slice none 0 0,.slice none 0 0,.slice none 0 0,.slice none 0 0,.slice none 0 0,.slice none 0 0,.slice none 0 0,.slice none 0 0,.slice none 0 0,.slice none 0 0] 76 ?_;intro gb hgb w2 hbox hb;have n0_:=mk0 (jj1 HB.out HB.out.size hb);have n1_:=mk0 (Nat.le_trans HS.out hb.size);have BK0:=mk0 hbox;have HGB:=mk0 (show w.heap.size≤gb from hgb ▸ HB.out.size);have HGS:=mk0 (show wr.heap.size≤gb from hgb ▸ HS.out);have n2_:=mk0 (jj1 HBR.out HBR.out.size hb);clear HB HS HBR hgb hbox hb;have HB:=n0_;have HS:=n1_;have HBR:=n2_;clear n0_ n1_ n2_)|((with_reducible refine jjz (t:=76) (p:=7) rfl ?_);refine Ur.store_box 76 7 13 gb #[.string x.f0,.slice A1 x.f1.length c1,.slice A2 x.f2.length c2,.slice A3 x.f3.length c3,.slice A4 x.f4.length c4,.slice A5 x.f5.length c5,.slice A6 x.f6.length c6,.slice A7 x.f7.length c7,.slice A8 x.f8.length c8,.slice A9 x.f9.length c9,.slice A10 x.f10.length c10] BK0.out ?_;intro w3 hS hbS hkS;have n0_:=mk0 (hbS _ _ HGB.out HB.out);have n1_:=mk0 (hbS wr.heap.size wr HGS.out HBR.out).size;have BK:=mk0 hS;have HBW:=mk0 (hbS wr.heap.size wr HGS.out HBR.out);clear HB HS hS hbS hkS BK0;have HB:=n0_;have HS:=n1_;clear n0_ n1_)|((with_reducible refine gate_load (ty:=76) (p:=7) rfl ?_);refine load_box 76 7 gb _ _ BK.out Try.underlying76 ?_)|(go_at_call 42;(with_reducible refine (clo42_c n HHH.out x HBX.out (fun k=>okp k∧k < w.heap.size) _ _ (Kd.FK_below HFK.out HB.out)).mono ?_);rintro e w4 ⟨csx,rfl,hFx,hb⟩;have HB4:=mk0 (jj1 HB.out HB.out.size hb);have HFX:=mk0 (Foot.bound hFx);have HLC:=mk0 (k76.K_len (Kd.FK_now hFx));have HN4:=mk0 (Kd.N_below (Kd.N_below HN.out HBW.out) hb);have HAP:=mk0 (ap_ok HN.out HBW.out.size HB.out.size w4.heap.size);clear hFx)|((with_reducible refine jk0 (N:=18) rfl ?_);refine Kd.event_run (w1:=w4.alloc (.cells csx.toArray 76)) (v:=.slice (some ⟨w4.heap.size,0,none⟩) 1 1) (by rfl) (Sw.run_op_buildSlice (cells:=csx.toArray) rfl rfl Try.underlying24 (by rw [List.size_toArray,HLC.out];exact ifdMessage) (by rw [List.size_toArray,HLC.out];decide) (by rw [List.size_toArray,HLC.out];decide)) ?_)|((with_reducible refine jk9 (b:=.append) (xs:=#[.tmp 14,.tmp 18]) rfl ?_);at_builtin;refine Kd.N_append k76 (w0:=w) (W:=w4) w.heap.size rfl (.tmp 14) (.tmp 18) 24 76 (.agg #[.string (⟨#[]⟩:ByteArray),.slice none 0 0,.slice none 0 0,.slice none 0 0,.slice none 0 0,.slice none 0 0,.slice none 0 0,.slice none 0 0,.slice none 0 0,.slice none 0 0,.slice none 0 0]) 256 rfl Try.underlying24 ifdMessage rfl (by decide) (by decide) (.slice AO i cO) ((l.take i).map (clMx n)) ((clMx n) x) csx (okN okp w.heap.size) (fun k=>okN (fun k=>okp k∧k < w.heap.size) w3.heap.size k∧k < w4.heap.size) rfl rfl HFX.out ?ap (fun k hk=>.inr (Nat.le_trans HB4.out.size hk)) HN4.out HB4.out HB4.out.size ?aL ?_;(case ap=>exact HAP.out);(case aL=>have h_:=HL.out;have h2_:=HLT.out;rw [List.length_map,List.length_take];omega);intro v1 w5 hN hb hg hat;have HN5:=mk0 (show Kd.N k76 76 w5 w.heap.size (okN okp w.heap.size) v1 ((l.take (i+1)).map (clMx n)) from by rw [← HSS.out];exact hN);have HB5:=mk0 hb;clear hN hb hg hat;obtain ⟨An,cn,evn⟩:=Kd.N_slice HN5.out;rw [List.length_map,List.length_take,Nat.min_eq_left HLT.out] at evn;subst evn))
     have hwp1:=hwp.out
     go_roundg k1
     case measure=>exact Nat.lt_succ_self k1
     case rel=>exact ⟨i+1,An,cn,rfl,(by first|rfl|(rw [hwp1])|(simp [hwp1];done)),⟨(Nat.add_right_comm i 1 k1).trans HI.out⟩,⟨HB5.out⟩,⟨HN5.out⟩⟩
  · have d0:=ge_d hlt
    obtain rfl:i=l.length:=by have:=HI.out;omega
    go_wp2
    go_ret
    have hN:=HN.out
    rw [List.take_of_length_le (by omega)] at hN
    exact ⟨AO,cO,rfl,(Kd.N_reads' hN).2.1,Kd.N_F hN,HB.out⟩
theorem eachM68_c (n:Nat) (a:Int) (pa:Nat) (l:List S76) (hb:(l.map bk76).sum≤4294967296) (okp:Nat→Prop) (A0:Option Addr) (c0:Nat) (w:World) (HF:Kd.F k76 w okp A0 l.length l) (hpa:w.heap[pa]?=some (.cells #[.int .i64 a] 3 (0,0))) (hH:∀ x∈l,bk76 x≤4294967296→∀ (okc:Nat→Prop) (w:World) (cs:List Value),Kd.FK k76 w okc x cs→w.heap[pa]?=some (.cells #[.int .i64 a] 3 (0,0))→Calls Try.prog 68 #[.agg cs.toArray,.pointer (some ⟨pa,0,none⟩)] w fun e w'=>∃ cs':List Value,e = .returned (.agg cs'.toArray)∧Kd.FK k76 w' (okN okc w.heap.size) (clMx n x) cs'∧Below w.heap.size w w') :
 Calls Try.prog 41 #[.slice A0 l.length c0,.func (.func 68) #[] #[.pointer (some ⟨pa,0,none⟩)]] w fun e w'=>∃ A c,e = .returned (.slice A l.length c)∧l.length≤c∧Kd.F k76 w' (okN okp w.heap.size) A l.length (l.map (clMx n))∧Below w.heap.size w w':=by
 have HFa:=mk0 (Kd.F_bound HF)
 have HLL:Aside0 (∀ y∈l,bk76 y≤4294967296):=⟨fun y hy=>Nat.le_trans (sumle bk76 l y hy) hb⟩
 have HL:Aside0 (l.length≤4294967296):=⟨Nat.le_trans (lensum bk76 bk76_pos l) hb⟩
 have HHH:=mk0 hH
 have HPA:=mk0 hpa
 clear hH hpa
 clear hb HF
 go_enter Try.func41,Try.ntmps41
 go_wp2
 go_loopg [5,10] l.length (fun kq v5 v10 w'=>∃ (i:Nat) (AO:Option Addr) (cO:Nat),v5 = .slice AO i cO∧v10 = .int .i64 (i:Int)∧Aside0 (i+kq=l.length)∧Aside0 (Below w.heap.size w w')∧Aside0 (Kd.N k76 76 w' w.heap.size (okN okp w.heap.size) (.slice AO i cO) ((l.take i).map (clMx n))))
 case atStart=>
  exact ⟨0,none,0,rfl,rfl,⟨by omega⟩,⟨Below.refl _ _⟩,⟨Kd.N_nil _ _ _ _ _⟩⟩
 case round=>
  obtain ⟨i,AO,cO,rfl,rfl,HI,HB,HN⟩:=hrel
  by_cases hlt:i < l.length
  · have d0:=lt_d hlt
    have HLT:=mk0 hlt
    have p0:=le_p i
    have q0:=lt_p hlt
    have hwp:=mk0 (wrap_lt i l.length hlt HL.out)
    obtain ⟨ad,c,ea,hcl,hFK,hcc,-⟩:=Kd.F_get HFa.out z76 (i:Int) (Int.natCast_nonneg _) (Int.ofNat_lt.2 hlt)
    rw [Int.toNat_natCast] at hFK hcc
    replace hcc:=fun j u h=>pw_cell_below HB.out (hcc j u h)
    have hxm:l.getD i z76∈l:=by rw [List.getD_eq_getElem?_getD,List.getElem?_eq_getElem hlt];exact List.getElem_mem hlt
    have hss:(l.take i).map (clMx n)++[(clMx n) (l.getD i z76)]=(l.take (i+1)).map (clMx n):=by rw [List.take_add_one,List.map_append];simp [hlt]
    obtain ⟨x,hx⟩:∃ x,l.getD i z76=x:=⟨_,rfl⟩
    rw [hx] at hFK hxm hss
    have HFK:=mk0 hFK
    obtain ⟨A1,c1,A2,c2,A3,c3,A4,c4,A5,c5,A6,c6,A7,c7,A8,c8,A9,c9,A10,c10,rfl,l1,g1,l2,g2,l3,g3,l4,g4,l5,g5,l6,g6,l7,g7,l8,g8,l9,g9,l10,g10⟩:=k76_openF hFK
    have HBX:=mk0 (HLL.out x hxm)
    have HSS:=mk0 hss
    have HXM:=mk0 hxm
    have HS:=mk0 (Nat.le_refl wr.heap.size)
    have HBR:=mk0 (Below.refl wr.heap.size wr)
    clear hss hx hxm hcl
    subst ea
    cases gk with
    | zero=>exact absurd HI.out (fun h=>Nat.ne_of_lt hlt h)
    | succ k1=>
     go_wp2_with (first|((with_reducible refine gate_load (ty:=76) (p:=12) rfl ?_);refine load_elem 76 12 ad (i*11) [.string x.f0,.slice A1 x.f1.length c1,.slice A2 x.f2.length c2,.slice A3 x.f3.length c3,.slice A4 x.f4.length c4,.slice A5 x.f5.length c5,.slice A6 x.f6.length c6,.slice A7 x.f7.length c7,.slice A8 x.f8.length c8,.slice A9 x.f9.length c9,.slice A10 x.f10.length c10] _ hcc Try.underlying76 ?_)|((with_reducible refine jk0 (N:=7) rfl ?_);refine bzX 7 #[.string (⟨#[]⟩:ByteArray),.slice none 0 0,.slice none 0 0,.slice none 0 0,.slice none 0 0,.slice none 0 0,.slice none 0 0,.slice none 0 0,.slice none 0 0,.slice none 0 0,.slice none 0 0] 76 ?_;intro gb hgb w2 hbox hb;have n0_:=mk0 (jj1 HB.out HB.out.size hb);have n1_:=mk0 (Nat.le_trans HS.out hb.size);have BK0:=mk0 hbox;have HGB:=mk0 (show w.heap.size≤gb from hgb ▸ HB.out.size);have HGS:=mk0 (show wr.heap.size≤gb from hgb ▸ HS.out);have n2_:=mk0 (jj1 HBR.out HBR.out.size hb);clear HB HS HBR hgb hbox hb;have HB:=n0_;have HS:=n1_;have HBR:=n2_;clear n0_ n1_ n2_)|((with_reducible refine jjz (t:=76) (p:=7) rfl ?_);refine Ur.store_box 76 7 13 gb #[.string x.f0,.slice A1 x.f1.length c1,.slice A2 x.f2.length c2,.slice A3 x.f3.length c3,.slice A4 x.f4.length c4,.slice A5 x.f5.length c5,.slice A6 x.f6.length c6,.slice A7 x.f7.length c7,.slice A8 x.f8.length c8,.slice A9 x.f9.length c9,.slice A10 x.f10.length c10] BK0.out ?_;intro w3 hS hbS hkS;have n0_:=mk0 (hbS _ _ HGB.out HB.out);have n1_:=mk0 (hbS wr.heap.size wr HGS.out HBR.out).size;have BK:=mk0 hS;have HBW:=mk0 (hbS wr.heap.size wr HGS.out HBR.out);clear HB HS hS hbS hkS BK0;have HB:=n0_;have HS:=n1_;clear n0_ n1_)|((with_reducible refine gate_load (ty:=76) (p:=7) rfl ?_);refine load_box 76 7 gb _ _ BK.out Try.underlying76 ?_)|(go_at_call 68;(with_reducible refine (HHH.out x HXM.out HBX.out (fun k=>okp k∧k < w.heap.size) _ _ (Kd.FK_below HFK.out HB.out) (jj3 HPA.out HB.out)).mono ?_);rintro e w4 ⟨csx,rfl,hFx,hb⟩;have HB4:=mk0 (jj1 HB.out HB.out.size hb);have HFX:=mk0 (Foot.bound hFx);have HLC:=mk0 (k76.K_len (Kd.FK_now hFx));have HN4:=mk0 (Kd.N_below (Kd.N_below HN.out HBW.out) hb);have HAP:=mk0 (ap_ok HN.out HBW.out.size HB.out.size w4.heap.size);clear hFx)|((with_reducible refine jk0 (N:=18) rfl ?_);refine Kd.event_run (w1:=w4.alloc (.cells csx.toArray 76)) (v:=.slice (some ⟨w4.heap.size,0,none⟩) 1 1) (by rfl) (Sw.run_op_buildSlice (cells:=csx.toArray) rfl rfl Try.underlying24 (by rw [List.size_toArray,HLC.out];exact ifdMessage) (by rw [List.size_toArray,HLC.out];decide) (by rw [List.size_toArray,HLC.out];decide)) ?_)|((with_reducible refine jk9 (b:=.append) (xs:=#[.tmp 14,.tmp 18]) rfl ?_);at_builtin;refine Kd.N_append k76 (w0:=w) (W:=w4) w.heap.size rfl (.tmp 14) (.tmp 18) 24 76 (.agg #[.string (⟨#[]⟩:ByteArray),.slice none 0 0,.slice none 0 0,.slice none 0 0,.slice none 0 0,.slice none 0 0,.slice none 0 0,.slice none 0 0,.slice none 0 0,.slice none 0 0,.slice none 0 0]) 256 rfl Try.underlying24 ifdMessage rfl (by decide) (by decide) (.slice AO i cO) ((l.take i).map (clMx n)) ((clMx n) x) csx (okN okp w.heap.size) (fun k=>okN (fun k=>okp k∧k < w.heap.size) w3.heap.size k∧k < w4.heap.size) rfl rfl HFX.out ?ap (fun k hk=>.inr (Nat.le_trans HB4.out.size hk)) HN4.out HB4.out HB4.out.size ?aL ?_;(case ap=>exact HAP.out);(case aL=>have h_:=HL.out;have h2_:=HLT.out;rw [List.length_map,List.length_take];omega);intro v1 w5 hN hb hg hat;have HN5:=mk0 (show Kd.N k76 76 w5 w.heap.size (okN okp w.heap.size) v1 ((l.take (i+1)).map (clMx n)) from by rw [← HSS.out];exact hN);have HB5:=mk0 hb;clear hN hb hg hat;obtain ⟨An,cn,evn⟩:=Kd.N_slice HN5.out;rw [List.length_map,List.length_take,Nat.min_eq_left HLT.out] at evn;subst evn))
     have hwp1:=hwp.out
     go_roundg k1
     case measure=>exact Nat.lt_succ_self k1
     case rel=>exact ⟨i+1,An,cn,rfl,(by first|rfl|(rw [hwp1])|(simp [hwp1];done)),⟨(Nat.add_right_comm i 1 k1).trans HI.out⟩,⟨HB5.out⟩,⟨HN5.out⟩⟩
  · have d0:=ge_d hlt
    obtain rfl:i=l.length:=by have:=HI.out;omega
    go_wp2
    go_ret
    have hN:=HN.out
    rw [List.take_of_length_le (by omega)] at hN
    exact ⟨AO,cO,rfl,(Kd.N_reads' hN).2.1,Kd.N_F hN,HB.out⟩
end Go.Proofs.Ytheoafenehckbaa.Ur
