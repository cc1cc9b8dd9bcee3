/- undesc's each. -/
import Derived.Test.YtheoafenehckbaaQDe
import Derived.Test.YtheoafenehckbaaQSh
import Derived.LoopN
import Derived.RegionTactic
set_option maxHeartbeats 8000000
set_option maxRecDepth 100000
namespace Go.Proofs.Ytheoafenehckbaa.Ur
open Go.RowKit GUndescBack YtheoafenehckbaaW.PrintWords YtheoafenehckbaaW.PrintLast YtheoafenehckbaaW.PrintMore Rk
set_option linter.unusedVariables false
set_option linter.unusedSimpArgs false
theorem ifdField:(Try.prog.info? 88).map (fun i=>(i.zero,i.size,i.bytes))=some (some (.agg #[.string (⟨#[]⟩:ByteArray),.int .i64 0,.int .i64 0,.int .i64 0,.string (⟨#[]⟩:ByteArray),.string (⟨#[]⟩:ByteArray),.string (⟨#[]⟩:ByteArray),.bool false,.int .i64 0,.string (⟨#[]⟩:ByteArray),.bool false,.slice none 0 0,.slice none 0 0]),13,176):=by kernel_rfl
theorem ifdValue:(Try.prog.info? 93).map (fun i=>(i.zero,i.size,i.bytes))=some (some (.agg #[.string (⟨#[]⟩:ByteArray),.int .i64 0,.slice none 0 0,.slice none 0 0]),4,72):=by kernel_rfl
theorem ifdOneof:(Try.prog.info? 91).map (fun i=>(i.zero,i.size,i.bytes))=some (some (.agg #[.string (⟨#[]⟩:ByteArray),.slice none 0 0,.slice none 0 0]),3,64):=by kernel_rfl
theorem ifdMethod:(Try.prog.info? 53).map (fun i=>(i.zero,i.size,i.bytes))=some (some (.agg #[.string (⟨#[]⟩:ByteArray),.string (⟨#[]⟩:ByteArray),.string (⟨#[]⟩:ByteArray),.bool false,.bool false,.slice none 0 0,.slice none 0 0]),7,104):=by kernel_rfl
theorem ifdEnum:(Try.prog.info? 82).map (fun i=>(i.zero,i.size,i.bytes))=some (some (.agg #[.string (⟨#[]⟩:ByteArray),.slice none 0 0,.slice none 0 0,.slice none 0 0]),4,88):=by kernel_rfl
theorem ifdService:(Try.prog.info? 51).map (fun i=>(i.zero,i.size,i.bytes))=some (some (.agg #[.string (⟨#[]⟩:ByteArray),.slice none 0 0,.slice none 0 0,.slice none 0 0]),4,88):=by kernel_rfl
theorem ifdMessage:(Try.prog.info? 76).map (fun i=>(i.zero,i.size,i.bytes))=some (some (.agg #[.string (⟨#[]⟩:ByteArray),.slice none 0 0,.slice none 0 0,.slice none 0 0,.slice none 0 0,.slice none 0 0,.slice none 0 0,.slice none 0 0,.slice none 0 0,.slice none 0 0,.slice none 0 0]),11,256):=by kernel_rfl
theorem ap_ok {α:Type} {d:Kd α} {e:Nat} {w wr w3:World} {okp:Nat→Prop} {vo:Value} {xs:List α} (h:Kd.N d e wr w.heap.size (okN okp w.heap.size) vo xs) (hs:wr.heap.size≤w3.heap.size) (hw:w.heap.size≤w3.heap.size) (m:Nat) (k:Nat) (hk:okN (fun k=>okp k∧k < w.heap.size) w3.heap.size k∧k < m):okN okp w.heap.size k∧some k≠vo.ownBlock:=by
 rcases hk.1 with h1|h1
 · exact ⟨.inl h1.1,fun e=>by have:=Kd.N_base h k e.symm;have:=h1.2;omega⟩
 · exact ⟨.inr (Nat.le_trans hw h1),fun e=>by have:=Kd.N_lt h k e.symm;omega⟩
theorem eachField_c (l:List S88) (hb:(l.map bk88).sum≤4294967296) (okp:Nat→Prop) (A0:Option Addr) (c0:Nat) (w:World) (HF:Kd.F k88 w okp A0 l.length l) :
 Calls Try.prog 48 #[.slice A0 l.length c0,.func (.func 49) #[] #[]] w fun e w'=>∃ A c,e = .returned (.slice A l.length c)∧l.length≤c∧Kd.F k88 w' (okN okp w.heap.size) A l.length (l.map clField)∧Below w.heap.size w w':=by
 have HFa:=mk0 (Kd.F_bound HF)
 have HLL:Aside0 (∀ y∈l,bk88 y≤4294967296):=⟨fun y hy=>Nat.le_trans (sumle bk88 l y hy) hb⟩
 have HL:Aside0 (l.length≤4294967296):=⟨Nat.le_trans (lensum bk88 bk88_pos l) hb⟩
 clear hb HF
 go_enter Try.func48,Try.ntmps48
 go_wp2
 go_loopg [5,10] l.length (fun kq v5 v10 w'=>∃ (i:Nat) (AO:Option Addr) (cO:Nat),v5 = .slice AO i cO∧v10 = .int .i64 (i:Int)∧Aside0 (i+kq=l.length)∧Aside0 (Below w.heap.size w w')∧Aside0 (Kd.N k88 88 w' w.heap.size (okN okp w.heap.size) (.slice AO i cO) ((l.take i).map clField)))
 case atStart=>
  exact ⟨0,none,0,rfl,rfl,⟨by omega⟩,⟨Below.refl _ _⟩,⟨Kd.N_nil _ _ _ _ _⟩⟩
 case round=>
  obtain ⟨i,AO,cO,rfl,rfl,HI,HB,HN⟩:=hrel
  by_cases hlt:i < l.length
  · have d0:=lt_d hlt
    have HLT:=mk0 hlt
    have p0:=le_p i
    have q0:=lt_p hlt
    have hwp:=mk0 (wrap_lt i l.length hlt HL.out)
    obtain ⟨ad,c,ea,hcl,hFK,hcc,-⟩:=Kd.F_get HFa.out z88 (i:Int) (Int.natCast_nonneg _) (Int.ofNat_lt.2 hlt)
    rw [Int.toNat_natCast] at hFK hcc
    replace hcc:=fun j u h=>pw_cell_below HB.out (hcc j u h)
    have hxm:l.getD i z88∈l:=by rw [List.getD_eq_getElem?_getD,List.getElem?_eq_getElem hlt];exact List.getElem_mem hlt
    have hss:(l.take i).map clField++[clField (l.getD i z88)]=(l.take (i+1)).map clField:=by rw [List.take_add_one,List.map_append];simp [hlt]
    obtain ⟨x,hx⟩:∃ x,l.getD i z88=x:=⟨_,rfl⟩
    rw [hx] at hFK hxm hss
    have HFK:=mk0 hFK
    obtain ⟨A11,c11,A12,c12,rfl,l11,g11,l12,g12⟩:=k88_openF hFK
    have HBX:=mk0 (HLL.out x hxm)
    have HSS:=mk0 hss
    have HS:=mk0 (Nat.le_refl wr.heap.size)
    have HBR:=mk0 (Below.refl wr.heap.size wr)
    clear hss hx hxm hcl
    subst ea
    cases gk with
    | zero=>exact absurd HI.out (fun h=>Nat.ne_of_lt hlt h)
    | succ k1=>
     go_wp2_with (first|((with_reducible refine gate_load (ty:=88) (p:=12) rfl ?_);refine load_elem 88 12 ad (i*13) [.string x.f0,.int .i64 x.f1,.int .i64 x.f2,.int .i64 x.f3,.string x.f4,.string x.f5,.string x.f6,.bool x.f7,.int .i64 x.f8,.string x.f9,.bool x.f10,.slice A11 x.f11.length c11,.slice A12 x.f12.length c12] _ hcc Try.underlying88 ?_)|((with_reducible refine jk0 (N:=7) rfl ?_);refine bzX 7 #[.string (⟨#[]⟩:ByteArray),.int .i64 0,.int .i64 0,.int .i64 0,.string (⟨#[]⟩:ByteArray),.string (⟨#[]⟩:ByteArray),.string (⟨#[]⟩:ByteArray),.bool false,.int .i64 0,.string (⟨#[]⟩:ByteArray),.bool false,.slice none 0 0,.slice none 0 0] 88 ?_;intro gb hgb w2 hbox hb;have n0_:=mk0 (jj1 HB.out HB.out.size hb);have n1_:=mk0 (Nat.le_trans HS.out hb.size);have BK0:=mk0 hbox;have HGB:=mk0 (show w.heap.size≤gb from hgb ▸ HB.out.size);have HGS:=mk0 (show wr.heap.size≤gb from hgb ▸ HS.out);have n2_:=mk0 (jj1 HBR.out HBR.out.size hb);clear HB HS HBR hgb hbox hb;have HB:=n0_;have HS:=n1_;have HBR:=n2_;clear n0_ n1_ n2_)|((with_reducible refine jjz (t:=88) (p:=7) rfl ?_);refine Ur.store_box 88 7 13 gb #[.string x.f0,.int .i64 x.f1,.int .i64 x.f2,.int .i64 x.f3,.string x.f4,.string x.f5,.string x.f6,.bool x.f7,.int .i64 x.f8,.string x.f9,.bool x.f10,.slice A11 x.f11.length c11,.slice A12 x.f12.length c12] BK0.out ?_;intro w3 hS hbS hkS;have n0_:=mk0 (hbS _ _ HGB.out HB.out);have n1_:=mk0 (hbS wr.heap.size wr HGS.out HBR.out).size;have BK:=mk0 hS;have HBW:=mk0 (hbS wr.heap.size wr HGS.out HBR.out);clear HB HS hS hbS hkS BK0;have HB:=n0_;have HS:=n1_;clear n0_ n1_)|((with_reducible refine gate_load (ty:=88) (p:=7) rfl ?_);refine load_box 88 7 gb _ _ BK.out Try.underlying88 ?_)|(go_at_call 49;(with_reducible refine (clnField_c x HBX.out (fun k=>okp k∧k < w.heap.size) _ _ (Kd.FK_below HFK.out HB.out)).mono ?_);rintro e w4 ⟨csx,rfl,hFx,hb⟩;have HB4:=mk0 (jj1 HB.out HB.out.size hb);have HFX:=mk0 (Foot.bound hFx);have HLC:=mk0 (k88.K_len (Kd.FK_now hFx));have HN4:=mk0 (Kd.N_below (Kd.N_below HN.out HBW.out) hb);have HAP:=mk0 (ap_ok HN.out HBW.out.size HB.out.size w4.heap.size);clear hFx)|((with_reducible refine jk0 (N:=18) rfl ?_);refine Kd.event_run (w1:=w4.alloc (.cells csx.toArray 88)) (v:=.slice (some ⟨w4.heap.size,0,none⟩) 1 1) (by rfl) (Sw.run_op_buildSlice (cells:=csx.toArray) rfl rfl Try.underlying27 (by rw [List.size_toArray,HLC.out];exact ifdField) (by rw [List.size_toArray,HLC.out];decide) (by rw [List.size_toArray,HLC.out];decide)) ?_)|((with_reducible refine jk9 (b:=.append) (xs:=#[.tmp 14,.tmp 18]) rfl ?_);at_builtin;refine Kd.N_append k88 (w0:=w) (W:=w4) w.heap.size rfl (.tmp 14) (.tmp 18) 27 88 (.agg #[.string (⟨#[]⟩:ByteArray),.int .i64 0,.int .i64 0,.int .i64 0,.string (⟨#[]⟩:ByteArray),.string (⟨#[]⟩:ByteArray),.string (⟨#[]⟩:ByteArray),.bool false,.int .i64 0,.string (⟨#[]⟩:ByteArray),.bool false,.slice none 0 0,.slice none 0 0]) 176 rfl Try.underlying27 ifdField rfl (by decide) (by decide) (.slice AO i cO) ((l.take i).map clField) (clField x) csx (okN okp w.heap.size) (fun k=>okN (fun k=>okp k∧k < w.heap.size) w3.heap.size k∧k < w4.heap.size) rfl rfl HFX.out ?ap (fun k hk=>.inr (Nat.le_trans HB4.out.size hk)) HN4.out HB4.out HB4.out.size ?aL ?_;(case ap=>exact HAP.out);(case aL=>have h_:=HL.out;have h2_:=HLT.out;rw [List.length_map,List.length_take];omega);intro v1 w5 hN hb hg hat;have HN5:=mk0 (show Kd.N k88 88 w5 w.heap.size (okN okp w.heap.size) v1 ((l.take (i+1)).map clField) from by rw [← HSS.out];exact hN);have HB5:=mk0 hb;clear hN hb hg hat;obtain ⟨An,cn,evn⟩:=Kd.N_slice HN5.out;rw [List.length_map,List.length_take,Nat.min_eq_left HLT.out] at evn;subst evn))
     have hwp1:=hwp.out
     go_roundg k1
     case measure=>exact Nat.lt_succ_self k1
     case rel=>exact ⟨i+1,An,cn,rfl,(by first|rfl|(rw [hwp1])|(simp [hwp1];done)),⟨(Nat.add_right_comm i 1 k1).trans HI.out⟩,⟨HB5.out⟩,⟨HN5.out⟩⟩
  · have d0:=ge_d hlt
    obtain rfl:i=l.length:=by have:=HI.out;omega
    go_wp2
    go_ret
    have hN:=HN.out
    rw [List.take_of_length_le (by omega)] at hN
    exact ⟨AO,cO,rfl,(Kd.N_reads' hN).2.1,Kd.N_F hN,HB.out⟩
theorem eachValue_c (l:List S93) (hb:(l.map bk93).sum≤4294967296) (okp:Nat→Prop) (A0:Option Addr) (c0:Nat) (w:World) (HF:Kd.F k93 w okp A0 l.length l) :
 Calls Try.prog 69 #[.slice A0 l.length c0,.func (.func 70) #[] #[]] w fun e w'=>∃ A c,e = .returned (.slice A l.length c)∧l.length≤c∧Kd.F k93 w' (okN okp w.heap.size) A l.length (l.map clValue)∧Below w.heap.size w w':=by
 have HFa:=mk0 (Kd.F_bound HF)
 have HLL:Aside0 (∀ y∈l,bk93 y≤4294967296):=⟨fun y hy=>Nat.le_trans (sumle bk93 l y hy) hb⟩
 have HL:Aside0 (l.length≤4294967296):=⟨Nat.le_trans (lensum bk93 bk93_pos l) hb⟩
 clear hb HF
 go_enter Try.func69,Try.ntmps69
 go_wp2
 go_loopg [5,10] l.length (fun kq v5 v10 w'=>∃ (i:Nat) (AO:Option Addr) (cO:Nat),v5 = .slice AO i cO∧v10 = .int .i64 (i:Int)∧Aside0 (i+kq=l.length)∧Aside0 (Below w.heap.size w w')∧Aside0 (Kd.N k93 93 w' w.heap.size (okN okp w.heap.size) (.slice AO i cO) ((l.take i).map clValue)))
 case atStart=>
  exact ⟨0,none,0,rfl,rfl,⟨by omega⟩,⟨Below.refl _ _⟩,⟨Kd.N_nil _ _ _ _ _⟩⟩
 case round=>
  obtain ⟨i,AO,cO,rfl,rfl,HI,HB,HN⟩:=hrel
  by_cases hlt:i < l.length
  · have d0:=lt_d hlt
    have HLT:=mk0 hlt
    have p0:=le_p i
    have q0:=lt_p hlt
    have hwp:=mk0 (wrap_lt i l.length hlt HL.out)
    obtain ⟨ad,c,ea,hcl,hFK,hcc,-⟩:=Kd.F_get HFa.out z93 (i:Int) (Int.natCast_nonneg _) (Int.ofNat_lt.2 hlt)
    rw [Int.toNat_natCast] at hFK hcc
    replace hcc:=fun j u h=>pw_cell_below HB.out (hcc j u h)
    have hxm:l.getD i z93∈l:=by rw [List.getD_eq_getElem?_getD,List.getElem?_eq_getElem hlt];exact List.getElem_mem hlt
    have hss:(l.take i).map clValue++[clValue (l.getD i z93)]=(l.take (i+1)).map clValue:=by rw [List.take_add_one,List.map_append];simp [hlt]
    obtain ⟨x,hx⟩:∃ x,l.getD i z93=x:=⟨_,rfl⟩
    rw [hx] at hFK hxm hss
    have HFK:=mk0 hFK
    obtain ⟨A2,c2,A3,c3,rfl,l2,g2,l3,g3⟩:=k93_openF hFK
    have HBX:=mk0 (HLL.out x hxm)
    have HSS:=mk0 hss
    have HS:=mk0 (Nat.le_refl wr.heap.size)
    have HBR:=mk0 (Below.refl wr.heap.size wr)
    clear hss hx hxm hcl
    subst ea
    cases gk with
    | zero=>exact absurd HI.out (fun h=>Nat.ne_of_lt hlt h)
    | succ k1=>
     go_wp2_with (first|((with_reducible refine gate_load (ty:=93) (p:=12) rfl ?_);refine load_elem 93 12 ad (i*4) [.string x.f0,.int .i64 x.f1,.slice A2 x.f2.length c2,.slice A3 x.f3.length c3] _ hcc Try.underlying93 ?_)|((with_reducible refine jk0 (N:=7) rfl ?_);refine bzX 7 #[.string (⟨#[]⟩:ByteArray),.int .i64 0,.slice none 0 0,.slice none 0 0] 93 ?_;intro gb hgb w2 hbox hb;have n0_:=mk0 (jj1 HB.out HB.out.size hb);have n1_:=mk0 (Nat.le_trans HS.out hb.size);have BK0:=mk0 hbox;have HGB:=mk0 (show w.heap.size≤gb from hgb ▸ HB.out.size);have HGS:=mk0 (show wr.heap.size≤gb from hgb ▸ HS.out);have n2_:=mk0 (jj1 HBR.out HBR.out.size hb);clear HB HS HBR hgb hbox hb;have HB:=n0_;have HS:=n1_;have HBR:=n2_;clear n0_ n1_ n2_)|((with_reducible refine jjz (t:=93) (p:=7) rfl ?_);refine Ur.store_box 93 7 13 gb #[.string x.f0,.int .i64 x.f1,.slice A2 x.f2.length c2,.slice A3 x.f3.length c3] BK0.out ?_;intro w3 hS hbS hkS;have n0_:=mk0 (hbS _ _ HGB.out HB.out);have n1_:=mk0 (hbS wr.heap.size wr HGS.out HBR.out).size;have BK:=mk0 hS;have HBW:=mk0 (hbS wr.heap.size wr HGS.out HBR.out);clear HB HS hS hbS hkS BK0;have HB:=n0_;have HS:=n1_;clear n0_ n1_)|((with_reducible refine gate_load (ty:=93) (p:=7) rfl ?_);refine load_box 93 7 gb _ _ BK.out Try.underlying93 ?_)|(go_at_call 70;(with_reducible refine (clnValue_c x HBX.out (fun k=>okp k∧k < w.heap.size) _ _ (Kd.FK_below HFK.out HB.out)).mono ?_);rintro e w4 ⟨csx,rfl,hFx,hb⟩;have HB4:=mk0 (jj1 HB.out HB.out.size hb);have HFX:=mk0 (Foot.bound hFx);have HLC:=mk0 (k93.K_len (Kd.FK_now hFx));have HN4:=mk0 (Kd.N_below (Kd.N_below HN.out HBW.out) hb);have HAP:=mk0 (ap_ok HN.out HBW.out.size HB.out.size w4.heap.size);clear hFx)|((with_reducible refine jk0 (N:=18) rfl ?_);refine Kd.event_run (w1:=w4.alloc (.cells csx.toArray 93)) (v:=.slice (some ⟨w4.heap.size,0,none⟩) 1 1) (by rfl) (Sw.run_op_buildSlice (cells:=csx.toArray) rfl rfl Try.underlying80 (by rw [List.size_toArray,HLC.out];exact ifdValue) (by rw [List.size_toArray,HLC.out];decide) (by rw [List.size_toArray,HLC.out];decide)) ?_)|((with_reducible refine jk9 (b:=.append) (xs:=#[.tmp 14,.tmp 18]) rfl ?_);at_builtin;refine Kd.N_append k93 (w0:=w) (W:=w4) w.heap.size rfl (.tmp 14) (.tmp 18) 80 93 (.agg #[.string (⟨#[]⟩:ByteArray),.int .i64 0,.slice none 0 0,.slice none 0 0]) 72 rfl Try.underlying80 ifdValue rfl (by decide) (by decide) (.slice AO i cO) ((l.take i).map clValue) (clValue x) csx (okN okp w.heap.size) (fun k=>okN (fun k=>okp k∧k < w.heap.size) w3.heap.size k∧k < w4.heap.size) rfl rfl HFX.out ?ap (fun k hk=>.inr (Nat.le_trans HB4.out.size hk)) HN4.out HB4.out HB4.out.size ?aL ?_;(case ap=>exact HAP.out);(case aL=>have h_:=HL.out;have h2_:=HLT.out;rw [List.length_map,List.length_take];omega);intro v1 w5 hN hb hg hat;have HN5:=mk0 (show Kd.N k93 93 w5 w.heap.size (okN okp w.heap.size) v1 ((l.take (i+1)).map clValue) from by rw [← HSS.out];exact hN);have HB5:=mk0 hb;clear hN hb hg hat;obtain ⟨An,cn,evn⟩:=Kd.N_slice HN5.out;rw [List.length_map,List.length_take,Nat.min_eq_left HLT.out] at evn;subst evn))
     have hwp1:=hwp.out
     go_roundg k1
     case measure=>exact Nat.lt_succ_self k1
     case rel=>exact ⟨i+1,An,cn,rfl,(by first|rfl|(rw [hwp1])|(simp [hwp1];done)),⟨(Nat.add_right_comm i 1 k1).trans HI.out⟩,⟨HB5.out⟩,⟨HN5.out⟩⟩
  · have d0:=ge_d hlt
    obtain rfl:i=l.length:=by have:=HI.out;omega
    go_wp2
    go_ret
    have hN:=HN.out
    rw [List.take_of_length_le (by omega)] at hN
    exact ⟨AO,cO,rfl,(Kd.N_reads' hN).2.1,Kd.N_F hN,HB.out⟩
theorem eachOneof_c (l:List S91) (hb:(l.map bk91).sum≤4294967296) (okp:Nat→Prop) (A0:Option Addr) (c0:Nat) (w:World) (HF:Kd.F k91 w okp A0 l.length l) :
 Calls Try.prog 66 #[.slice A0 l.length c0,.func (.func 67) #[] #[]] w fun e w'=>∃ A c,e = .returned (.slice A l.length c)∧l.length≤c∧Kd.F k91 w' (okN okp w.heap.size) A l.length (l.map clOneof)∧Below w.heap.size w w':=by
 have HFa:=mk0 (Kd.F_bound HF)
 have HLL:Aside0 (∀ y∈l,bk91 y≤4294967296):=⟨fun y hy=>Nat.le_trans (sumle bk91 l y hy) hb⟩
 have HL:Aside0 (l.length≤4294967296):=⟨Nat.le_trans (lensum bk91 bk91_pos l) hb⟩
 clear hb HF
 go_enter Try.func66,Try.ntmps66
 go_wp2
 go_loopg [5,10] l.length (fun kq v5 v10 w'=>∃ (i:Nat) (AO:Option Addr) (cO:Nat),v5 = .slice AO i cO∧v10 = .int .i64 (i:Int)∧Aside0 (i+kq=l.length)∧Aside0 (Below w.heap.size w w')∧Aside0 (Kd.N k91 91 w' w.heap.size (okN okp w.heap.size) (.slice AO i cO) ((l.take i).map clOneof)))
 case atStart=>
  exact ⟨0,none,0,rfl,rfl,⟨by omega⟩,⟨Below.refl _ _⟩,⟨Kd.N_nil _ _ _ _ _⟩⟩
 case round=>
  obtain ⟨i,AO,cO,rfl,rfl,HI,HB,HN⟩:=hrel
  by_cases hlt:i < l.length
  · have d0:=lt_d hlt
    have HLT:=mk0 hlt
    have p0:=le_p i
    have q0:=lt_p hlt
    have hwp:=mk0 (wrap_lt i l.length hlt HL.out)
    obtain ⟨ad,c,ea,hcl,hFK,hcc,-⟩:=Kd.F_get HFa.out z91 (i:Int) (Int.natCast_nonneg _) (Int.ofNat_lt.2 hlt)
    rw [Int.toNat_natCast] at hFK hcc
    replace hcc:=fun j u h=>pw_cell_below HB.out (hcc j u h)
    have hxm:l.getD i z91∈l:=by rw [List.getD_eq_getElem?_getD,List.getElem?_eq_getElem hlt];exact List.getElem_mem hlt
    have hss:(l.take i).map clOneof++[clOneof (l.getD i z91)]=(l.take (i+1)).map clOneof:=by rw [List.take_add_one,List.map_append];simp [hlt]
    obtain ⟨x,hx⟩:∃ x,l.getD i z91=x:=⟨_,rfl⟩
    rw [hx] at hFK hxm hss
    have HFK:=mk0 hFK
    obtain ⟨A1,c1,A2,c2,rfl,l1,g1,l2,g2⟩:=k91_openF hFK
    have HBX:=mk0 (HLL.out x hxm)
    have HSS:=mk0 hss
    have HS:=mk0 (Nat.le_refl wr.heap.size)
    have HBR:=mk0 (Below.refl wr.heap.size wr)
    clear hss hx hxm hcl
    subst ea
    cases gk with
    | zero=>exact absurd HI.out (fun h=>Nat.ne_of_lt hlt h)
    | succ k1=>
     go_wp2_with (first|((with_reducible refine gate_load (ty:=91) (p:=12) rfl ?_);refine load_elem 91 12 ad (i*3) [.string x.f0,.slice A1 x.f1.length c1,.slice A2 x.f2.length c2] _ hcc Try.underlying91 ?_)|((with_reducible refine jk0 (N:=7) rfl ?_);refine bzX 7 #[.string (⟨#[]⟩:ByteArray),.slice none 0 0,.slice none 0 0] 91 ?_;intro gb hgb w2 hbox hb;have n0_:=mk0 (jj1 HB.out HB.out.size hb);have n1_:=mk0 (Nat.le_trans HS.out hb.size);have BK0:=mk0 hbox;have HGB:=mk0 (show w.heap.size≤gb from hgb ▸ HB.out.size);have HGS:=mk0 (show wr.heap.size≤gb from hgb ▸ HS.out);have n2_:=mk0 (jj1 HBR.out HBR.out.size hb);clear HB HS HBR hgb hbox hb;have HB:=n0_;have HS:=n1_;have HBR:=n2_;clear n0_ n1_ n2_)|((with_reducible refine jjz (t:=91) (p:=7) rfl ?_);refine Ur.store_box 91 7 13 gb #[.string x.f0,.slice A1 x.f1.length c1,.slice A2 x.f2.length c2] BK0.out ?_;intro w3 hS hbS hkS;have n0_:=mk0 (hbS _ _ HGB.out HB.out);have n1_:=mk0 (hbS wr.heap.size wr HGS.out HBR.out).size;have BK:=mk0 hS;have HBW:=mk0 (hbS wr.heap.size wr HGS.out HBR.out);clear HB HS hS hbS hkS BK0;have HB:=n0_;have HS:=n1_;clear n0_ n1_)|((with_reducible refine gate_load (ty:=91) (p:=7) rfl ?_);refine load_box 91 7 gb _ _ BK.out Try.underlying91 ?_)|(go_at_call 67;(with_reducible refine (clnOneof_c x HBX.out (fun k=>okp k∧k < w.heap.size) _ _ (Kd.FK_below HFK.out HB.out)).mono ?_);rintro e w4 ⟨csx,rfl,hFx,hb⟩;have HB4:=mk0 (jj1 HB.out HB.out.size hb);have HFX:=mk0 (Foot.bound hFx);have HLC:=mk0 (k91.K_len (Kd.FK_now hFx));have HN4:=mk0 (Kd.N_below (Kd.N_below HN.out HBW.out) hb);have HAP:=mk0 (ap_ok HN.out HBW.out.size HB.out.size w4.heap.size);clear hFx)|((with_reducible refine jk0 (N:=18) rfl ?_);refine Kd.event_run (w1:=w4.alloc (.cells csx.toArray 91)) (v:=.slice (some ⟨w4.heap.size,0,none⟩) 1 1) (by rfl) (Sw.run_op_buildSlice (cells:=csx.toArray) rfl rfl Try.underlying74 (by rw [List.size_toArray,HLC.out];exact ifdOneof) (by rw [List.size_toArray,HLC.out];decide) (by rw [List.size_toArray,HLC.out];decide)) ?_)|((with_reducible refine jk9 (b:=.append) (xs:=#[.tmp 14,.tmp 18]) rfl ?_);at_builtin;refine Kd.N_append k91 (w0:=w) (W:=w4) w.heap.size rfl (.tmp 14) (.tmp 18) 74 91 (.agg #[.string (⟨#[]⟩:ByteArray),.slice none 0 0,.slice none 0 0]) 64 rfl Try.underlying74 ifdOneof rfl (by decide) (by decide) (.slice AO i cO) ((l.take i).map clOneof) (clOneof x) csx (okN okp w.heap.size) (fun k=>okN (fun k=>okp k∧k < w.heap.size) w3.heap.size k∧k < w4.heap.size) rfl rfl HFX.out ?ap (fun k hk=>.inr (Nat.le_trans HB4.out.size hk)) HN4.out HB4.out HB4.out.size ?aL ?_;(case ap=>exact HAP.out);(case aL=>have h_:=HL.out;have h2_:=HLT.out;rw [List.length_map,List.length_take];omega);intro v1 w5 hN hb hg hat;have HN5:=mk0 (show Kd.N k91 91 w5 w.heap.size (okN okp w.heap.size) v1 ((l.take (i+1)).map clOneof) from by rw [← HSS.out];exact hN);have HB5:=mk0 hb;clear hN hb hg hat;obtain ⟨An,cn,evn⟩:=Kd.N_slice HN5.out;rw [List.length_map,List.length_take,Nat.min_eq_left HLT.out] at evn;subst evn))
     have hwp1:=hwp.out
     go_roundg k1
     case measure=>exact Nat.lt_succ_self k1
     case rel=>exact ⟨i+1,An,cn,rfl,(by first|rfl|(rw [hwp1])|(simp [hwp1];done)),⟨(Nat.add_right_comm i 1 k1).trans HI.out⟩,⟨HB5.out⟩,⟨HN5.out⟩⟩
  · have d0:=ge_d hlt
    obtain rfl:i=l.length:=by have:=HI.out;omega
    go_wp2
    go_ret
    have hN:=HN.out
    rw [List.take_of_length_le (by omega)] at hN
    exact ⟨AO,cO,rfl,(Kd.N_reads' hN).2.1,Kd.N_F hN,HB.out⟩
theorem eachMethod_c (l:List S53) (hb:(l.map bk53).sum≤4294967296) (okp:Nat→Prop) (A0:Option Addr) (c0:Nat) (w:World) (HF:Kd.F k53 w okp A0 l.length l) :
 Calls Try.prog 71 #[.slice A0 l.length c0,.func (.func 72) #[] #[]] w fun e w'=>∃ A c,e = .returned (.slice A l.length c)∧l.length≤c∧Kd.F k53 w' (okN okp w.heap.size) A l.length (l.map clMethod)∧Below w.heap.size w w':=by
 have HFa:=mk0 (Kd.F_bound HF)
 have HLL:Aside0 (∀ y∈l,bk53 y≤4294967296):=⟨fun y hy=>Nat.le_trans (sumle bk53 l y hy) hb⟩
 have HL:Aside0 (l.length≤4294967296):=⟨Nat.le_trans (lensum bk53 bk53_pos l) hb⟩
 clear hb HF
 go_enter Try.func71,Try.ntmps71
 go_wp2
 go_loopg [5,10] l.length (fun kq v5 v10 w'=>∃ (i:Nat) (AO:Option Addr) (cO:Nat),v5 = .slice AO i cO∧v10 = .int .i64 (i:Int)∧Aside0 (i+kq=l.length)∧Aside0 (Below w.heap.size w w')∧Aside0 (Kd.N k53 53 w' w.heap.size (okN okp w.heap.size) (.slice AO i cO) ((l.take i).map clMethod)))
 case atStart=>
  exact ⟨0,none,0,rfl,rfl,⟨by omega⟩,⟨Below.refl _ _⟩,⟨Kd.N_nil _ _ _ _ _⟩⟩
 case round=>
  obtain ⟨i,AO,cO,rfl,rfl,HI,HB,HN⟩:=hrel
  by_cases hlt:i < l.length
  · have d0:=lt_d hlt
    have HLT:=mk0 hlt
    have p0:=le_p i
    have q0:=lt_p hlt
    have hwp:=mk0 (wrap_lt i l.length hlt HL.out)
    obtain ⟨ad,c,ea,hcl,hFK,hcc,-⟩:=Kd.F_get HFa.out z53 (i:Int) (Int.natCast_nonneg _) (Int.ofNat_lt.2 hlt)
    rw [Int.toNat_natCast] at hFK hcc
    replace hcc:=fun j u h=>pw_cell_below HB.out (hcc j u h)
    have hxm:l.getD i z53∈l:=by rw [List.getD_eq_getElem?_getD,List.getElem?_eq_getElem hlt];exact List.getElem_mem hlt
    have hss:(l.take i).map clMethod++[clMethod (l.getD i z53)]=(l.take (i+1)).map clMethod:=by rw [List.take_add_one,List.map_append];simp [hlt]
    obtain ⟨x,hx⟩:∃ x,l.getD i z53=x:=⟨_,rfl⟩
    rw [hx] at hFK hxm hss
    have HFK:=mk0 hFK
    obtain ⟨A5,c5,A6,c6,rfl,l5,g5,l6,g6⟩:=k53_openF hFK
    have HBX:=mk0 (HLL.out x hxm)
    have HSS:=mk0 hss
    have HS:=mk0 (Nat.le_refl wr.heap.size)
    have HBR:=mk0 (Below.refl wr.heap.size wr)
    clear hss hx hxm hcl
    subst ea
    cases gk with
    | zero=>exact absurd HI.out (fun h=>Nat.ne_of_lt hlt h)
    | succ k1=>
     go_wp2_with (first|((with_reducible refine gate_load (ty:=53) (p:=12) rfl ?_);refine load_elem 53 12 ad (i*7) [.string x.f0,.string x.f1,.string x.f2,.bool x.f3,.bool x.f4,.slice A5 x.f5.length c5,.slice A6 x.f6.length c6] _ hcc Try.underlying53 ?_)|((with_reducible refine jk0 (N:=7) rfl ?_);refine bzX 7 #[.string (⟨#[]⟩:ByteArray),.string (⟨#[]⟩:ByteArray),.string (⟨#[]⟩:ByteArray),.bool false,.bool false,.slice none 0 0,.slice none 0 0] 53 ?_;intro gb hgb w2 hbox hb;have n0_:=mk0 (jj1 HB.out HB.out.size hb);have n1_:=mk0 (Nat.le_trans HS.out hb.size);have BK0:=mk0 hbox;have HGB:=mk0 (show w.heap.size≤gb from hgb ▸ HB.out.size);have HGS:=mk0 (show wr.heap.size≤gb from hgb ▸ HS.out);have n2_:=mk0 (jj1 HBR.out HBR.out.size hb);clear HB HS HBR hgb hbox hb;have HB:=n0_;have HS:=n1_;have HBR:=n2_;clear n0_ n1_ n2_)|((with_reducible refine jjz (t:=53) (p:=7) rfl ?_);refine Ur.store_box 53 7 13 gb #[.string x.f0,.string x.f1,.string x.f2,.bool x.f3,.bool x.f4,.slice A5 x.f5.length c5,.slice A6 x.f6.length c6] BK0.out ?_;intro w3 hS hbS hkS;have n0_:=mk0 (hbS _ _ HGB.out HB.out);have n1_:=mk0 (hbS wr.heap.size wr HGS.out HBR.out).size;have BK:=mk0 hS;have HBW:=mk0 (hbS wr.heap.size wr HGS.out HBR.out);clear HB HS hS hbS hkS BK0;have HB:=n0_;have HS:=n1_;clear n0_ n1_)|((with_reducible refine gate_load (ty:=53) (p:=7) rfl ?_);refine load_box 53 7 gb _ _ BK.out Try.underlying53 ?_)|(go_at_call 72;(with_reducible refine (clnMethod_c x HBX.out (fun k=>okp k∧k < w.heap.size) _ _ (Kd.FK_below HFK.out HB.out)).mono ?_);rintro e w4 ⟨csx,rfl,hFx,hb⟩;have HB4:=mk0 (jj1 HB.out HB.out.size hb);have HFX:=mk0 (Foot.bound hFx);have HLC:=mk0 (k53.K_len (Kd.FK_now hFx));have HN4:=mk0 (Kd.N_below (Kd.N_below HN.out HBW.out) hb);have HAP:=mk0 (ap_ok HN.out HBW.out.size HB.out.size w4.heap.size);clear hFx)|((with_reducible refine jk0 (N:=18) rfl ?_);refine Kd.event_run (w1:=w4.alloc (.cells csx.toArray 53)) (v:=.slice (some ⟨w4.heap.size,0,none⟩) 1 1) (by rfl) (Sw.run_op_buildSlice (cells:=csx.toArray) rfl rfl Try.underlying49 (by rw [List.size_toArray,HLC.out];exact ifdMethod) (by rw [List.size_toArray,HLC.out];decide) (by rw [List.size_toArray,HLC.out];decide)) ?_)|((with_reducible refine jk9 (b:=.append) (xs:=#[.tmp 14,.tmp 18]) rfl ?_);at_builtin;refine Kd.N_append k53 (w0:=w) (W:=w4) w.heap.size rfl (.tmp 14) (.tmp 18) 49 53 (.agg #[.string (⟨#[]⟩:ByteArray),.string (⟨#[]⟩:ByteArray),.string (⟨#[]⟩:ByteArray),.bool false,.bool false,.slice none 0 0,.slice none 0 0]) 104 rfl Try.underlying49 ifdMethod rfl (by decide) (by decide) (.slice AO i cO) ((l.take i).map clMethod) (clMethod x) csx (okN okp w.heap.size) (fun k=>okN (fun k=>okp k∧k < w.heap.size) w3.heap.size k∧k < w4.heap.size) rfl rfl HFX.out ?ap (fun k hk=>.inr (Nat.le_trans HB4.out.size hk)) HN4.out HB4.out HB4.out.size ?aL ?_;(case ap=>exact HAP.out);(case aL=>have h_:=HL.out;have h2_:=HLT.out;rw [List.length_map,List.length_take];omega);intro v1 w5 hN hb hg hat;have HN5:=mk0 (show Kd.N k53 53 w5 w.heap.size (okN okp w.heap.size) v1 ((l.take (i+1)).map clMethod) from by rw [← HSS.out];exact hN);have HB5:=mk0 hb;clear hN hb hg hat;obtain ⟨An,cn,evn⟩:=Kd.N_slice HN5.out;rw [List.length_map,List.length_take,Nat.min_eq_left HLT.out] at evn;subst evn))
     have hwp1:=hwp.out
     go_roundg k1
     case measure=>exact Nat.lt_succ_self k1
     case rel=>exact ⟨i+1,An,cn,rfl,(by first|rfl|(rw [hwp1])|(simp [hwp1];done)),⟨(Nat.add_right_comm i 1 k1).trans HI.out⟩,⟨HB5.out⟩,⟨HN5.out⟩⟩
  · have d0:=ge_d hlt
    obtain rfl:i=l.length:=by have:=HI.out;omega
    go_wp2
    go_ret
    have hN:=HN.out
    rw [List.take_of_length_le (by omega)] at hN
    exact ⟨AO,cO,rfl,(Kd.N_reads' hN).2.1,Kd.N_F hN,HB.out⟩
theorem clnEnum_c (x:S82) (hbk:bk82 x≤4294967296) (okc:Nat→Prop) (w:World) (cs:List Value) (hx:Kd.FK k82 w okc x cs) :
 Calls Try.prog 45 #[.agg cs.toArray] w fun e w'=>∃ cs':List Value,e = .returned (.agg cs'.toArray)∧Kd.FK k82 w' (okN okc w.heap.size) (clEnum x) cs'∧Below w.heap.size w w':=by
 obtain ⟨A1,c1,A2,c2,A3,c3,rfl,l1,g1,l2,g2,l3,g3⟩:=k82_openF hx
 have HL:=mk0 (bnEnum hbk)
 clear hbk
 go_enter Try.func45,Try.ntmps45
 go_wp2_with (first|((with_reducible refine jk0 (N:=1) rfl ?_);refine bzX 1 #[.string x.f0,.slice A1 x.f1.length c1,.slice A2 x.f2.length c2,.slice A3 x.f3.length c3] 82 ?_;intro gx hgx wa hbox hb;have HB:=mk0 hb;have BX0:=mk0 hbox;have HGX:=mk0 (Nat.le_of_eq hgx.symm);clear hgx hbox hb)|((with_reducible refine jk0 (N:=2) rfl ?_);refine bzX 2 #[.string (⟨#[]⟩:ByteArray),.slice none 0 0,.slice none 0 0,.slice none 0 0] 82 ?_;intro gr hgx w0 hbox hb;have HB1:=mk0 (jj1 HB.out HB.out.size hb);have BX:=mk0 (Bx.new (jj3 BX0.out hb));have B2:=mk0 hbox;have HG2:=mk0 (show w.heap.size≤gr from hgx ▸ HB.out.size);have HNE:=mk0 (show gr≠gx from fun e=>by have:=blk_lt BX0.out;rw [hgx] at e;omega);clear HB BX0 hgx hbox hb;have HB:=HB1;clear HB1;have k2_:w0.cell? ⟨gx,2,none⟩=some (.slice A2 x.f2.length c2:Value):=BX.out.cell 2 rfl))
 obtain ⟨n1,hn1⟩:∃ z,z=w0.heap.size:=⟨_,rfl⟩
 have HNX:Aside0 (∀ k,okB okc w.heap.size n1 k→k≠gx):=⟨okB_ne HGX.out (by rw [hn1];exact BX.out.glt)⟩
 have HN2:Aside0 (∀ k,okB okc w.heap.size n1 k→k≠gr):=⟨okB_ne HG2.out (by rw [hn1];exact blk_lt B2.out)⟩
 have HNL:=mk0 (show w.heap.size≤n1 from by rw [hn1];exact Nat.le_trans HG2.out (Nat.le_of_lt (blk_lt B2.out)))
 have HFR:Aside0 (∀ k,w0.heap.size≤k→okB okc w.heap.size n1 k):=⟨fun k hk=>okB_fr (by rw [hn1];exact hk)⟩
 have G1:=mk0 (okB_of (n1:=n1) g1 rfl HB.out)
 have G2:=mk0 (okB_of (n1:=n1) g2 rfl HB.out)
 have G3:=mk0 (okB_of (n1:=n1) g3 rfl HB.out)
 clear hn1 g1 g2 g3 k2_
 refine (clone8_c x.f2 HL.out.2.1 _ A2 c2 w0 (BX.out.F HNX.out G2.out)).mono ?_
 rintro e w1 ⟨F2,e2,rfl,he,hF,hb⟩
 have HFn:=mk0 (BX.out.Fcall (ok:=okB okc w.heap.size n1) HFR.out hF)
 replace HB:=mk0 (jj1 HB.out HB.out.size hb)
 replace BX:=mk0 (BX.out.below hb)
 have HF2:=HFn
 have HE2:=mk0 he
 clear hF hb he HFn
 go_wp2_with (first|((with_reducible refine jjz (t:=28) (p:=6) rfl ?_);refine BX.out.event 2 (.slice F2 x.f2.length e2) #[.string x.f0,.slice A1 x.f1.length c1,.slice F2 x.f2.length e2,.slice A3 x.f3.length c3] ?_;intro w2 hX hg hB;replace HB:=mk0 (hB _ _ HGX.out HB.out);replace BX:=mk0 (hX);replace HF2:=mk0 (jj8 HNX.out HF2.out hg);clear hX hg hB)|((with_reducible refine jjz (t:=28) (p:=7) rfl ?_);refine BX.out.event 3 (.slice none 0 0) #[.string x.f0,.slice A1 x.f1.length c1,.slice F2 x.f2.length e2,.slice none 0 0] ?_;intro w3 hX hg hB;replace HB:=mk0 (hB _ _ HGX.out HB.out);replace BX:=mk0 (hX);replace HF2:=mk0 (jj8 HNX.out HF2.out hg);clear hX hg hB;have k1_:w3.cell? ⟨gx,1,none⟩=some (.slice A1 x.f1.length c1:Value):=BX.out.cell 1 rfl))
 clear k1_
 refine (eachValue_c x.f1 HL.out.1 _ A1 c1 w3 (BX.out.F HNX.out G1.out)).mono ?_
 rintro e w4 ⟨F1,e1,rfl,he,hF,hb⟩
 have HFn:=mk0 (BX.out.Fcall (ok:=okB okc w.heap.size n1) HFR.out hF)
 replace HB:=mk0 (jj1 HB.out HB.out.size hb)
 replace BX:=mk0 (BX.out.below hb)
 replace HF2:=mk0 (jk3 HF2.out hb)
 have HF1:=HFn
 have HE1:=mk0 he
 clear hF hb he HFn
 go_wp2_with (first|((with_reducible refine jjz (t:=80) (p:=11) rfl ?_);refine BX.out.event 1 (.slice F1 x.f1.length e1) #[.string x.f0,.slice F1 x.f1.length e1,.slice F2 x.f2.length e2,.slice none 0 0] ?_;intro w5 hX hg hB;replace HB:=mk0 (hB _ _ HGX.out HB.out);replace BX:=mk0 (hX);replace HF2:=mk0 (jj8 HNX.out HF2.out hg);replace HF1:=mk0 (jj8 HNX.out HF1.out hg);clear hX hg hB;have B3:=mk0 ((BX.out.touch gr (blk_lt B2.out) HNE.out).trans B2.out))|((with_reducible refine gate_load (ty:=82) (p:=1) rfl ?_);refine load_box 82 1 gx _ _ BX.out.blk Try.underlying82 ?_)|((with_reducible refine jjz (t:=82) (p:=2) rfl ?_);refine Ur.store_box 82 2 12 gr #[.string x.f0,.slice F1 x.f1.length e1,.slice F2 x.f2.length e2,.slice none 0 0] B3.out ?_;intro w9 hS hbS hkS;have B9:=mk0 hS;have HB9:=mk0 (hbS _ _ HG2.out HB.out);have HK9:=mk0 hkS;clear hS hbS hkS))
 refine bodyPost_ret (res_c1 rfl _ _ gr 82 #[.string x.f0,.slice F1 x.f1.length e1,.slice F2 x.f2.length e2,.slice none 0 0] (0,0) _ rfl B9.out Try.underlying82 rfl (by kernel_rfl)) rfl ?_
 have fin:∀ {β:Type} {d':Kd β} {A:Option Addr} {m:Nat} {ys:List β},Kd.F d' w0 (fun k=>okB okc w.heap.size n1 k∧k < w0.heap.size) A m ys→Kd.F d' w9 (okN okc w.heap.size) A m ys:=fun hF=>Kd.F_mono (Kd.F_step (BX.out.F HNX.out hF) (fun k hk _=>HK9.out k (HN2.out k hk.1))) (fun k hk=>okB_in HNL.out hk.1)
 have fix:∀ {β:Type} {d':Kd β} {A:Option Addr} {m:Nat} {ys:List β},Kd.F d' w5 (fun k=>okB okc w.heap.size n1 k∧k < w5.heap.size) A m ys→Kd.F d' w9 (okN okc w.heap.size) A m ys:=fun hF=>Kd.F_mono (Kd.F_step hF (fun k hk _=>HK9.out k (HN2.out k hk.1))) (fun k hk=>okB_in HNL.out hk.1)
 refine ⟨[.string x.f0,.slice F1 x.f1.length e1,.slice F2 x.f2.length e2,.slice none 0 0],rfl,?_,HB9.out⟩
 have h_:=k82_mkF w9 (okN okc w.heap.size) (clEnum x) (le_map HE1.out) (F_map (fix HF1.out)) HE2.out (fix HF2.out) (A3:=none) (c3:=0) (Nat.le_refl 0) (F_nil8 _ _)
 rw [show (clEnum x).f1.length=x.f1.length from List.length_map ..] at h_
 exact h_
theorem clnService_c (x:S51) (hbk:bk51 x≤4294967296) (okc:Nat→Prop) (w:World) (cs:List Value) (hx:Kd.FK k51 w okc x cs) :
 Calls Try.prog 47 #[.agg cs.toArray] w fun e w'=>∃ cs':List Value,e = .returned (.agg cs'.toArray)∧Kd.FK k51 w' (okN okc w.heap.size) (clService x) cs'∧Below w.heap.size w w':=by
 obtain ⟨A1,c1,A2,c2,A3,c3,rfl,l1,g1,l2,g2,l3,g3⟩:=k51_openF hx
 have HL:=mk0 (bnService hbk)
 clear hbk
 go_enter Try.func47,Try.ntmps47
 go_wp2_with (first|((with_reducible refine jk0 (N:=1) rfl ?_);refine bzX 1 #[.string x.f0,.slice A1 x.f1.length c1,.slice A2 x.f2.length c2,.slice A3 x.f3.length c3] 51 ?_;intro gx hgx wa hbox hb;have HB:=mk0 hb;have BX0:=mk0 hbox;have HGX:=mk0 (Nat.le_of_eq hgx.symm);clear hgx hbox hb)|((with_reducible refine jk0 (N:=2) rfl ?_);refine bzX 2 #[.string (⟨#[]⟩:ByteArray),.slice none 0 0,.slice none 0 0,.slice none 0 0] 51 ?_;intro gr hgx w0 hbox hb;have HB1:=mk0 (jj1 HB.out HB.out.size hb);have BX:=mk0 (Bx.new (jj3 BX0.out hb));have B2:=mk0 hbox;have HG2:=mk0 (show w.heap.size≤gr from hgx ▸ HB.out.size);have HNE:=mk0 (show gr≠gx from fun e=>by have:=blk_lt BX0.out;rw [hgx] at e;omega);clear HB BX0 hgx hbox hb;have HB:=HB1;clear HB1;have k2_:w0.cell? ⟨gx,2,none⟩=some (.slice A2 x.f2.length c2:Value):=BX.out.cell 2 rfl))
 obtain ⟨n1,hn1⟩:∃ z,z=w0.heap.size:=⟨_,rfl⟩
 have HNX:Aside0 (∀ k,okB okc w.heap.size n1 k→k≠gx):=⟨okB_ne HGX.out (by rw [hn1];exact BX.out.glt)⟩
 have HN2:Aside0 (∀ k,okB okc w.heap.size n1 k→k≠gr):=⟨okB_ne HG2.out (by rw [hn1];exact blk_lt B2.out)⟩
 have HNL:=mk0 (show w.heap.size≤n1 from by rw [hn1];exact Nat.le_trans HG2.out (Nat.le_of_lt (blk_lt B2.out)))
 have HFR:Aside0 (∀ k,w0.heap.size≤k→okB okc w.heap.size n1 k):=⟨fun k hk=>okB_fr (by rw [hn1];exact hk)⟩
 have G1:=mk0 (okB_of (n1:=n1) g1 rfl HB.out)
 have G2:=mk0 (okB_of (n1:=n1) g2 rfl HB.out)
 have G3:=mk0 (okB_of (n1:=n1) g3 rfl HB.out)
 clear hn1 g1 g2 g3 k2_
 refine (clone8_c x.f2 HL.out.2.1 _ A2 c2 w0 (BX.out.F HNX.out G2.out)).mono ?_
 rintro e w1 ⟨F2,e2,rfl,he,hF,hb⟩
 have HFn:=mk0 (BX.out.Fcall (ok:=okB okc w.heap.size n1) HFR.out hF)
 replace HB:=mk0 (jj1 HB.out HB.out.size hb)
 replace BX:=mk0 (BX.out.below hb)
 have HF2:=HFn
 have HE2:=mk0 he
 clear hF hb he HFn
 go_wp2_with (first|((with_reducible refine jjz (t:=28) (p:=6) rfl ?_);refine BX.out.event 2 (.slice F2 x.f2.length e2) #[.string x.f0,.slice A1 x.f1.length c1,.slice F2 x.f2.length e2,.slice A3 x.f3.length c3] ?_;intro w2 hX hg hB;replace HB:=mk0 (hB _ _ HGX.out HB.out);replace BX:=mk0 (hX);replace HF2:=mk0 (jj8 HNX.out HF2.out hg);clear hX hg hB)|((with_reducible refine jjz (t:=28) (p:=7) rfl ?_);refine BX.out.event 3 (.slice none 0 0) #[.string x.f0,.slice A1 x.f1.length c1,.slice F2 x.f2.length e2,.slice none 0 0] ?_;intro w3 hX hg hB;replace HB:=mk0 (hB _ _ HGX.out HB.out);replace BX:=mk0 (hX);replace HF2:=mk0 (jj8 HNX.out HF2.out hg);clear hX hg hB;have k1_:w3.cell? ⟨gx,1,none⟩=some (.slice A1 x.f1.length c1:Value):=BX.out.cell 1 rfl))
 clear k1_
 refine (eachMethod_c x.f1 HL.out.1 _ A1 c1 w3 (BX.out.F HNX.out G1.out)).mono ?_
 rintro e w4 ⟨F1,e1,rfl,he,hF,hb⟩
 have HFn:=mk0 (BX.out.Fcall (ok:=okB okc w.heap.size n1) HFR.out hF)
 replace HB:=mk0 (jj1 HB.out HB.out.size hb)
 replace BX:=mk0 (BX.out.below hb)
 replace HF2:=mk0 (jk3 HF2.out hb)
 have HF1:=HFn
 have HE1:=mk0 he
 clear hF hb he HFn
 go_wp2_with (first|((with_reducible refine jjz (t:=49) (p:=11) rfl ?_);refine BX.out.event 1 (.slice F1 x.f1.length e1) #[.string x.f0,.slice F1 x.f1.length e1,.slice F2 x.f2.length e2,.slice none 0 0] ?_;intro w5 hX hg hB;replace HB:=mk0 (hB _ _ HGX.out HB.out);replace BX:=mk0 (hX);replace HF2:=mk0 (jj8 HNX.out HF2.out hg);replace HF1:=mk0 (jj8 HNX.out HF1.out hg);clear hX hg hB;have B3:=mk0 ((BX.out.touch gr (blk_lt B2.out) HNE.out).trans B2.out))|((with_reducible refine gate_load (ty:=51) (p:=1) rfl ?_);refine load_box 51 1 gx _ _ BX.out.blk Try.underlying51 ?_)|((with_reducible refine jjz (t:=51) (p:=2) rfl ?_);refine Ur.store_box 51 2 12 gr #[.string x.f0,.slice F1 x.f1.length e1,.slice F2 x.f2.length e2,.slice none 0 0] B3.out ?_;intro w9 hS hbS hkS;have B9:=mk0 hS;have HB9:=mk0 (hbS _ _ HG2.out HB.out);have HK9:=mk0 hkS;clear hS hbS hkS))
 refine bodyPost_ret (res_c1 rfl _ _ gr 51 #[.string x.f0,.slice F1 x.f1.length e1,.slice F2 x.f2.length e2,.slice none 0 0] (0,0) _ rfl B9.out Try.underlying51 rfl (by kernel_rfl)) rfl ?_
 have fin:∀ {β:Type} {d':Kd β} {A:Option Addr} {m:Nat} {ys:List β},Kd.F d' w0 (fun k=>okB okc w.heap.size n1 k∧k < w0.heap.size) A m ys→Kd.F d' w9 (okN okc w.heap.size) A m ys:=fun hF=>Kd.F_mono (Kd.F_step (BX.out.F HNX.out hF) (fun k hk _=>HK9.out k (HN2.out k hk.1))) (fun k hk=>okB_in HNL.out hk.1)
 have fix:∀ {β:Type} {d':Kd β} {A:Option Addr} {m:Nat} {ys:List β},Kd.F d' w5 (fun k=>okB okc w.heap.size n1 k∧k < w5.heap.size) A m ys→Kd.F d' w9 (okN okc w.heap.size) A m ys:=fun hF=>Kd.F_mono (Kd.F_step hF (fun k hk _=>HK9.out k (HN2.out k hk.1))) (fun k hk=>okB_in HNL.out hk.1)
 refine ⟨[.string x.f0,.slice F1 x.f1.length e1,.slice F2 x.f2.length e2,.slice none 0 0],rfl,?_,HB9.out⟩
 have h_:=k51_mkF w9 (okN okc w.heap.size) (clService x) (le_map HE1.out) (F_map (fix HF1.out)) HE2.out (fix HF2.out) (A3:=none) (c3:=0) (Nat.le_refl 0) (F_nil8 _ _)
 rw [show (clService x).f1.length=x.f1.length from List.length_map ..] at h_
 exact h_
theorem eachEnum_c (l:List S82) (hb:(l.map bk82).sum≤4294967296) (okp:Nat→Prop) (A0:Option Addr) (c0:Nat) (w:World) (HF:Kd.F k82 w okp A0 l.length l) :
 Calls Try.prog 44 #[.slice A0 l.length c0,.func (.func 45) #[] #[]] w fun e w'=>∃ A c,e = .returned (.slice A l.length c)∧l.length≤c∧Kd.F k82 w' (okN okp w.heap.size) A l.length (l.map clEnum)∧Below w.heap.size w w':=by
 have HFa:=mk0 (Kd.F_bound HF)
 have HLL:Aside0 (∀ y∈l,bk82 y≤4294967296):=⟨fun y hy=>Nat.le_trans (sumle bk82 l y hy) hb⟩
 have HL:Aside0 (l.length≤4294967296):=⟨Nat.le_trans (lensum bk82 bk82_pos l) hb⟩
 clear hb HF
 go_enter Try.func44,Try.ntmps44
 go_wp2
 go_loopg [5,10] l.length (fun kq v5 v10 w'=>∃ (i:Nat) (AO:Option Addr) (cO:Nat),v5 = .slice AO i cO∧v10 = .int .i64 (i:Int)∧Aside0 (i+kq=l.length)∧Aside0 (Below w.heap.size w w')∧Aside0 (Kd.N k82 82 w' w.heap.size (okN okp w.heap.size) (.slice AO i cO) ((l.take i).map clEnum)))
 case atStart=>
  exact ⟨0,none,0,rfl,rfl,⟨by omega⟩,⟨Below.refl _ _⟩,⟨Kd.N_nil _ _ _ _ _⟩⟩
 case round=>
  obtain ⟨i,AO,cO,rfl,rfl,HI,HB,HN⟩:=hrel
  by_cases hlt:i < l.length
  · have d0:=lt_d hlt
    have HLT:=mk0 hlt
    have p0:=le_p i
    have q0:=lt_p hlt
    have hwp:=mk0 (wrap_lt i l.length hlt HL.out)
    obtain ⟨ad,c,ea,hcl,hFK,hcc,-⟩:=Kd.F_get HFa.out z82 (i:Int) (Int.natCast_nonneg _) (Int.ofNat_lt.2 hlt)
    rw [Int.toNat_natCast] at hFK hcc
    replace hcc:=fun j u h=>pw_cell_below HB.out (hcc j u h)
    have hxm:l.getD i z82∈l:=by rw [List.getD_eq_getElem?_getD,List.getElem?_eq_getElem hlt];exact List.getElem_mem hlt
    have hss:(l.take i).map clEnum++[clEnum (l.getD i z82)]=(l.take (i+1)).map clEnum:=by rw [List.take_add_one,List.map_append];simp [hlt]
    obtain ⟨x,hx⟩:∃ x,l.getD i z82=x:=⟨_,rfl⟩
    rw [hx] at hFK hxm hss
    have HFK:=mk0 hFK
    obtain ⟨A1,c1,A2,c2,A3,c3,rfl,l1,g1,l2,g2,l3,g3⟩:=k82_openF hFK
    have HBX:=mk0 (HLL.out x hxm)
    have HSS:=mk0 hss
    have HS:=mk0 (Nat.le_refl wr.heap.size)
    have HBR:=mk0 (Below.refl wr.heap.size wr)
    clear hss hx hxm hcl
    subst ea
    cases gk with
    | zero=>exact absurd HI.out (fun h=>Nat.ne_of_lt hlt h)
    | succ k1=>
     go_wp2_with (first|((with_reducible refine gate_load (ty:=82) (p:=12) rfl ?_);refine load_elem 82 12 ad (i*4) [.string x.f0,.slice A1 x.f1.length c1,.slice A2 x.f2.length c2,.slice A3 x.f3.length c3] _ hcc Try.underlying82 ?_)|((with_reducible refine jk0 (N:=7) rfl ?_);refine bzX 7 #[.string (⟨#[]⟩:ByteArray),.slice none 0 0,.slice none 0 0,.slice none 0 0] 82 ?_;intro gb hgb w2 hbox hb;have n0_:=mk0 (jj1 HB.out HB.out.size hb);have n1_:=mk0 (Nat.le_trans HS.out hb.size);have BK0:=mk0 hbox;have HGB:=mk0 (show w.heap.size≤gb from hgb ▸ HB.out.size);have HGS:=mk0 (show wr.heap.size≤gb from hgb ▸ HS.out);have n2_:=mk0 (jj1 HBR.out HBR.out.size hb);clear HB HS HBR hgb hbox hb;have HB:=n0_;have HS:=n1_;have HBR:=n2_;clear n0_ n1_ n2_)|((with_reducible refine jjz (t:=82) (p:=7) rfl ?_);refine Ur.store_box 82 7 13 gb #[.string x.f0,.slice A1 x.f1.length c1,.slice A2 x.f2.length c2,.slice A3 x.f3.length c3] BK0.out ?_;intro w3 hS hbS hkS;have n0_:=mk0 (hbS _ _ HGB.out HB.out);have n1_:=mk0 (hbS wr.heap.size wr HGS.out HBR.out).size;have BK:=mk0 hS;have HBW:=mk0 (hbS wr.heap.size wr HGS.out HBR.out);clear HB HS hS hbS hkS BK0;have HB:=n0_;have HS:=n1_;clear n0_ n1_)|((with_reducible refine gate_load (ty:=82) (p:=7) rfl ?_);refine load_box 82 7 gb _ _ BK.out Try.underlying82 ?_)|(go_at_call 45;(with_reducible refine (clnEnum_c x HBX.out (fun k=>okp k∧k < w.heap.size) _ _ (Kd.FK_below HFK.out HB.out)).mono ?_);rintro e w4 ⟨csx,rfl,hFx,hb⟩;have HB4:=mk0 (jj1 HB.out HB.out.size hb);have HFX:=mk0 (Foot.bound hFx);have HLC:=mk0 (k82.K_len (Kd.FK_now hFx));have HN4:=mk0 (Kd.N_below (Kd.N_below HN.out HBW.out) hb);have HAP:=mk0 (ap_ok HN.out HBW.out.size HB.out.size w4.heap.size);clear hFx)|((with_reducible refine jk0 (N:=18) rfl ?_);refine Kd.event_run (w1:=w4.alloc (.cells csx.toArray 82)) (v:=.slice (some ⟨w4.heap.size,0,none⟩) 1 1) (by rfl) (Sw.run_op_buildSlice (cells:=csx.toArray) rfl rfl Try.underlying25 (by rw [List.size_toArray,HLC.out];exact ifdEnum) (by rw [List.size_toArray,HLC.out];decide) (by rw [List.size_toArray,HLC.out];decide)) ?_)|((with_reducible refine jk9 (b:=.append) (xs:=#[.tmp 14,.tmp 18]) rfl ?_);at_builtin;refine Kd.N_append k82 (w0:=w) (W:=w4) w.heap.size rfl (.tmp 14) (.tmp 18) 25 82 (.agg #[.string (⟨#[]⟩:ByteArray),.slice none 0 0,.slice none 0 0,.slice none 0 0]) 88 rfl Try.underlying25 ifdEnum rfl (by decide) (by decide) (.slice AO i cO) ((l.take i).map clEnum) (clEnum x) csx (okN okp w.heap.size) (fun k=>okN (fun k=>okp k∧k < w.heap.size) w3.heap.size k∧k < w4.heap.size) rfl rfl HFX.out ?ap (fun k hk=>.inr (Nat.le_trans HB4.out.size hk)) HN4.out HB4.out HB4.out.size ?aL ?_;(case ap=>exact HAP.out);(case aL=>have h_:=HL.out;have h2_:=HLT.out;rw [List.length_map,List.length_take];omega);intro v1 w5 hN hb hg hat;have HN5:=mk0 (show Kd.N k82 82 w5 w.heap.size (okN okp w.heap.size) v1 ((l.take (i+1)).map clEnum) from by rw [← HSS.out];exact hN);have HB5:=mk0 hb;clear hN hb hg hat;obtain ⟨An,cn,evn⟩:=Kd.N_slice HN5.out;rw [List.length_map,List.length_take,Nat.min_eq_left HLT.out] at evn;subst evn))
     have hwp1:=hwp.out
     go_roundg k1
     case measure=>exact Nat.lt_succ_self k1
     case rel=>exact ⟨i+1,An,cn,rfl,(by first|rfl|(rw [hwp1])|(simp [hwp1];done)),⟨(Nat.add_right_comm i 1 k1).trans HI.out⟩,⟨HB5.out⟩,⟨HN5.out⟩⟩
  · have d0:=ge_d hlt
    obtain rfl:i=l.length:=by have:=HI.out;omega
    go_wp2
    go_ret
    have hN:=HN.out
    rw [List.take_of_length_le (by omega)] at hN
    exact ⟨AO,cO,rfl,(Kd.N_reads' hN).2.1,Kd.N_F hN,HB.out⟩
theorem eachService_c (l:List S51) (hb:(l.map bk51).sum≤4294967296) (okp:Nat→Prop) (A0:Option Addr) (c0:Nat) (w:World) (HF:Kd.F k51 w okp A0 l.length l) :
 Calls Try.prog 46 #[.slice A0 l.length c0,.func (.func 47) #[] #[]] w fun e w'=>∃ A c,e = .returned (.slice A l.length c)∧l.length≤c∧Kd.F k51 w' (okN okp w.heap.size) A l.length (l.map clService)∧Below w.heap.size w w':=by
 have HFa:=mk0 (Kd.F_bound HF)
 have HLL:Aside0 (∀ y∈l,bk51 y≤4294967296):=⟨fun y hy=>Nat.le_trans (sumle bk51 l y hy) hb⟩
 have HL:Aside0 (l.length≤4294967296):=⟨Nat.le_trans (lensum bk51 bk51_pos l) hb⟩
 clear hb HF
 go_enter Try.func46,Try.ntmps46
 go_wp2
 go_loopg [5,10] l.length (fun kq v5 v10 w'=>∃ (i:Nat) (AO:Option Addr) (cO:Nat),v5 = .slice AO i cO∧v10 = .int .i64 (i:Int)∧Aside0 (i+kq=l.length)∧Aside0 (Below w.heap.size w w')∧Aside0 (Kd.N k51 51 w' w.heap.size (okN okp w.heap.size) (.slice AO i cO) ((l.take i).map clService)))
 case atStart=>
  exact ⟨0,none,0,rfl,rfl,⟨by omega⟩,⟨Below.refl _ _⟩,⟨Kd.N_nil _ _ _ _ _⟩⟩
 case round=>
  obtain ⟨i,AO,cO,rfl,rfl,HI,HB,HN⟩:=hrel
  by_cases hlt:i < l.length
  · have d0:=lt_d hlt
    have HLT:=mk0 hlt
    have p0:=le_p i
    have q0:=lt_p hlt
    have hwp:=mk0 (wrap_lt i l.length hlt HL.out)
    obtain ⟨ad,c,ea,hcl,hFK,hcc,-⟩:=Kd.F_get HFa.out z51 (i:Int) (Int.natCast_nonneg _) (Int.ofNat_lt.2 hlt)
    rw [Int.toNat_natCast] at hFK hcc
    replace hcc:=fun j u h=>pw_cell_below HB.out (hcc j u h)
    have hxm:l.getD i z51∈l:=by rw [List.getD_eq_getElem?_getD,List.getElem?_eq_getElem hlt];exact List.getElem_mem hlt
    have hss:(l.take i).map clService++[clService (l.getD i z51)]=(l.take (i+1)).map clService:=by rw [List.take_add_one,List.map_append];simp [hlt]
    obtain ⟨x,hx⟩:∃ x,l.getD i z51=x:=⟨_,rfl⟩
    rw [hx] at hFK hxm hss
    have HFK:=mk0 hFK
    obtain ⟨A1,c1,A2,c2,A3,c3,rfl,l1,g1,l2,g2,l3,g3⟩:=k51_openF hFK
    have HBX:=mk0 (HLL.out x hxm)
    have HSS:=mk0 hss
    have HS:=mk0 (Nat.le_refl wr.heap.size)
    have HBR:=mk0 (Below.refl wr.heap.size wr)
    clear hss hx hxm hcl
    subst ea
    cases gk with
    | zero=>exact absurd HI.out (fun h=>Nat.ne_of_lt hlt h)
    | succ k1=>
     go_wp2_with (first|((with_reducible refine gate_load (ty:=51) (p:=12) rfl ?_);refine load_elem 51 12 ad (i*4) [.string x.f0,.slice A1 x.f1.length c1,.slice A2 x.f2.length c2,.slice A3 x.f3.length c3] _ hcc Try.underlying51 ?_)|((with_reducible refine jk0 (N:=7) rfl ?_);refine bzX 7 #[.string (⟨#[]⟩:ByteArray),.slice none 0 0,.slice none 0 0,.slice none 0 0] 51 ?_;intro gb hgb w2 hbox hb;have n0_:=mk0 (jj1 HB.out HB.out.size hb);have n1_:=mk0 (Nat.le_trans HS.out hb.size);have BK0:=mk0 hbox;have HGB:=mk0 (show w.heap.size≤gb from hgb ▸ HB.out.size);have HGS:=mk0 (show wr.heap.size≤gb from hgb ▸ HS.out);have n2_:=mk0 (jj1 HBR.out HBR.out.size hb);clear HB HS HBR hgb hbox hb;have HB:=n0_;have HS:=n1_;have HBR:=n2_;clear n0_ n1_ n2_)|((with_reducible refine jjz (t:=51) (p:=7) rfl ?_);refine Ur.store_box 51 7 13 gb #[.string x.f0,.slice A1 x.f1.length c1,.slice A2 x.f2.length c2,.slice A3 x.f3.length c3] BK0.out ?_;intro w3 hS hbS hkS;have n0_:=mk0 (hbS _ _ HGB.out HB.out);have n1_:=mk0 (hbS wr.heap.size wr HGS.out HBR.out).size;have BK:=mk0 hS;have HBW:=mk0 (hbS wr.heap.size wr HGS.out HBR.out);clear HB HS hS hbS hkS BK0;have HB:=n0_;have HS:=n1_;clear n0_ n1_)|((with_reducible refine gate_load (ty:=51) (p:=7) rfl ?_);refine load_box 51 7 gb _ _ BK.out Try.underlying51 ?_)|(go_at_call 47;(with_reducible refine (clnService_c x HBX.out (fun k=>okp k∧k < w.heap.size) _ _ (Kd.FK_below HFK.out HB.out)).mono ?_);rintro e w4 ⟨csx,rfl,hFx,hb⟩;have HB4:=mk0 (jj1 HB.out HB.out.size hb);have HFX:=mk0 (Foot.bound hFx);have HLC:=mk0 (k51.K_len (Kd.FK_now hFx));have HN4:=mk0 (Kd.N_below (Kd.N_below HN.out HBW.out) hb);have HAP:=mk0 (ap_ok HN.out HBW.out.size HB.out.size w4.heap.size);clear hFx)|((with_reducible refine jk0 (N:=18) rfl ?_);refine Kd.event_run (w1:=w4.alloc (.cells csx.toArray 51)) (v:=.slice (some ⟨w4.heap.size,0,none⟩) 1 1) (by rfl) (Sw.run_op_buildSlice (cells:=csx.toArray) rfl rfl Try.underlying26 (by rw [List.size_toArray,HLC.out];exact ifdService) (by rw [List.size_toArray,HLC.out];decide) (by rw [List.size_toArray,HLC.out];decide)) ?_)|((with_reducible refine jk9 (b:=.append) (xs:=#[.tmp 14,.tmp 18]) rfl ?_);at_builtin;refine Kd.N_append k51 (w0:=w) (W:=w4) w.heap.size rfl (.tmp 14) (.tmp 18) 26 51 (.agg #[.string (⟨#[]⟩:ByteArray),.slice none 0 0,.slice none 0 0,.slice none 0 0]) 88 rfl Try.underlying26 ifdService rfl (by decide) (by decide) (.slice AO i cO) ((l.take i).map clService) (clService x) csx (okN okp w.heap.size) (fun k=>okN (fun k=>okp k∧k < w.heap.size) w3.heap.size k∧k < w4.heap.size) rfl rfl HFX.out ?ap (fun k hk=>.inr (Nat.le_trans HB4.out.size hk)) HN4.out HB4.out HB4.out.size ?aL ?_;(case ap=>exact HAP.out);(case aL=>have h_:=HL.out;have h2_:=HLT.out;rw [List.length_map,List.length_take];omega);intro v1 w5 hN hb hg hat;have HN5:=mk0 (show Kd.N k51 51 w5 w.heap.size (okN okp w.heap.size) v1 ((l.take (i+1)).map clService) from by rw [← HSS.out];exact hN);have HB5:=mk0 hb;clear hN hb hg hat;obtain ⟨An,cn,evn⟩:=Kd.N_slice HN5.out;rw [List.length_map,List.length_take,Nat.min_eq_left HLT.out] at evn;subst evn))
     have hwp1:=hwp.out
     go_roundg k1
     case measure=>exact Nat.lt_succ_self k1
     case rel=>exact ⟨i+1,An,cn,rfl,(by first|rfl|(rw [hwp1])|(simp [hwp1];done)),⟨(Nat.add_right_comm i 1 k1).trans HI.out⟩,⟨HB5.out⟩,⟨HN5.out⟩⟩
  · have d0:=ge_d hlt
    obtain rfl:i=l.length:=by have:=HI.out;omega
    go_wp2
    go_ret
    have hN:=HN.out
    rw [List.take_of_length_le (by omega)] at hN
    exact ⟨AO,cO,rfl,(Kd.N_reads' hN).2.1,Kd.N_F hN,HB.out⟩
end Go.Proofs.Ytheoafenehckbaa.Ur
