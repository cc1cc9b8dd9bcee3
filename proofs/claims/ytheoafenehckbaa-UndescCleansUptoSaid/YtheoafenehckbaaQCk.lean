/- Fields cleaned, by the reference. -/
import Derived.Test.YtheoafenehckbaaQCx
import Derived.Test.YtheoafenehckbaaQSh
import Derived.LoopN
import Derived.RegionTactic
namespace Go.Proofs.Ytheoafenehckbaa.Ur
open Go.RowKit GUndescBack YtheoafenehckbaaW.PrintWords YtheoafenehckbaaW.PrintLast YtheoafenehckbaaW.PrintMore Rk
set_option linter.unusedVariables false
set_option linter.unusedSimpArgs false
theorem ifoField:(Try.prog.info? 88).map (fun i=>(i.zero,i.size,i.bytes))=some (some (.agg #[.string (⟨#[]⟩:ByteArray),.int .i64 0,.int .i64 0,.int .i64 0,.string (⟨#[]⟩:ByteArray),.string (⟨#[]⟩:ByteArray),.string (⟨#[]⟩:ByteArray),.bool false,.int .i64 0,.string (⟨#[]⟩:ByteArray),.bool false,.slice none 0 0,.slice none 0 0]),13,176):=by kernel_rfl
theorem clField_FK {W:World} {ok:Nat→Prop} {x:S88} {c:List Value} (h:Kd.FK k88 W ok x c):Kd.FK k88 W ok (clField x) (c.take 12++[.slice none 0 0]++c.drop 13):=by
 obtain ⟨A11,c11,A12,c12,rfl,l11,g11,l12,g12⟩:=k88_openF h
 exact k88_mkF W ok (clField x) l11 g11 (A12:=none) (c12:=0) (Nat.le_refl 0) (F_nil8 W ok)
set_option maxHeartbeats 8000000 in
set_option maxRecDepth 100000 in
theorem cleanFields_c (l:List S88) (hl:l.length≤4294967296) (okp:Nat→Prop) (A0:Option Addr) (c0:Nat) (w:World) (HF:Kd.F k88 w okp A0 l.length l) :
 Calls Try.prog 21 #[.slice A0 l.length c0] w fun e w'=>∃ A c,e = .returned (.slice A l.length c)∧l.length≤c∧Kd.F k88 w' (okN okp w.heap.size) A l.length (l.map clField)∧Below w.heap.size w w':=by
 have HFa:=mk0 HF
 have HL:=mk0 hl
 clear hl HF
 go_enter Try.func21,Try.ntmps21
 go_wp2_with (first|((with_reducible refine jk0 (N:=6) rfl ?_);refine Kd.N_append_rows k88 (w0:=w) w.heap.size rfl (.const (.slice none 0 0)) (.tmp 5) 27 88 (.agg #[.string (⟨#[]⟩:ByteArray),.int .i64 0,.int .i64 0,.int .i64 0,.string (⟨#[]⟩:ByteArray),.string (⟨#[]⟩:ByteArray),.string (⟨#[]⟩:ByteArray),.bool false,.int .i64 0,.string (⟨#[]⟩:ByteArray),.bool false,.slice none 0 0,.slice none 0 0]) 176 rfl Try.underlying27 ifoField rfl (by decide) (by decide) (.slice none 0 0) [] l A0 l.length c0 (okN okp w.heap.size) okp rfl rfl (Kd.N_nil _ _ _ _ _) HFa.out (fun k hk=>⟨.inl hk,by simp [Value.ownBlock]⟩) (fun k hk=>.inr hk) (Below.refl _ _) (Nat.le_refl _) ?aL ?_;(case aL=>have:=HL.out;simp only [List.length_nil];omega);intro v1 w1 hN hb hg hat;have HN:=mk0 (show Kd.N k88 88 w1 w.heap.size (okN okp w.heap.size) v1 l from hN);have HB:=mk0 hb;clear hN hb hg hat;obtain ⟨A1,c1,rfl⟩:=Kd.N_slice HN.out))
 go_loopg [9] l.length (fun kq v9 w'=>∃ i:Nat,v9 = .int .i64 (i:Int)∧Aside0 (i+kq=l.length)∧Aside0 (Below w.heap.size w w')∧Aside0 (Kd.N k88 88 w' w.heap.size (okN okp w.heap.size) (.slice A1 l.length c1) ((l.take i).map clField++l.drop i)))
 case atStart=>
  exact ⟨0,rfl,⟨by omega⟩,⟨HB.out⟩,⟨HN.out⟩⟩
 case round=>
  clear HN HB
  obtain ⟨i,rfl,HI,HB,HN⟩:=hrel
  by_cases hlt:i < l.length
  · have d0:=lt_d hlt
    have HLT:=mk0 hlt
    have p0:(0≤(i:Int))=True:=eq_true (Int.natCast_nonneg i)
    have q0:((i:Int) < (l.length:Int))=True:=eq_true (Int.ofNat_lt.2 hlt)
    have hwp:=mk0 (wrap_lt i l.length hlt HL.out)
    obtain ⟨g,cap,ev,hbg,-⟩:=Kd.N_form HN.out (by rw [len_map];omega)
    injection ev with e1 e2 e3
    subst e1
    clear e2 e3
    obtain ⟨c,hcl,hFK,hcc,hfr⟩:=Kd.N_elem HN.out z88 (i:Int) (Int.natCast_nonneg _) (Int.ofNat_lt.2 hlt)
    rw [Int.toNat_natCast,get_map _ _ _ _ hlt] at hFK
    have hss:=set_map clField z88 l i hlt
    obtain ⟨x,hx⟩:∃ x,l.getD i z88=x:=⟨_,rfl⟩
    rw [hx] at hFK hss
    have hf12:=hfr 12
    rw [Int.toNat_natCast] at hf12
    have HSS:=mk0 hss
    clear hss hfr hx
    cases gk with
    | zero=>exact absurd HI.out (fun h=>Nat.ne_of_lt hlt h)
    | succ k1=>
     have hwp1:=hwp.out
     go_wp2_with (first|((with_reducible refine jjz (t:=28) (p:=15) rfl ?_);refine Kd.N_store k88 (w0:=w) w.heap.size rfl rfl 28 (.tmp 15) (.const (.slice none 0 0)) rfl 88 (i:Int) 12 _ (clField x) (.slice none 0 0) [.slice none 0 0] c (okN okp w.heap.size) (fun k=>(okN okp w.heap.size) k∧k≠g) rfl ?of rfl rfl (by kernel_rfl) (fun q hq=>by rw [List.mem_singleton.1 hq];rfl) HN.out (Int.natCast_nonneg _) (Int.ofNat_lt.2 HLT.out) hcl hcc (by decide) (clField_FK hFK) (fun _ h=>h) HB.out ?_;(case of=>rw [Int.toNat_natCast];first|rfl|(show _=i*13+12;omega));intro w1 hN hb hg;have n0_:=mk0 hN;clear HN HB hcc;have HN:=n0_;have HB:=mk0 hb;clear n0_ hN hb hg))
     go_roundg k1
     case measure=>exact Nat.lt_succ_self k1
     case rel=>exact ⟨i+1,(by first|rfl|(rw [hwp1])|(simp [hwp1];done)),⟨(Nat.add_right_comm i 1 k1).trans HI.out⟩,⟨HB.out⟩,⟨by have h_:=HN.out;rw [Int.toNat_natCast,HSS.out] at h_;exact h_⟩⟩
  · have d0:=ge_d hlt
    go_wp2
    go_ret
    have hN:=HN.out
    rw [List.take_of_length_le (by omega),List.drop_of_length_le (by omega),List.append_nil] at hN
    exact ⟨A1,c1,rfl,by have:=(Kd.N_reads' hN).2.1;exact this,Kd.N_F hN,HB.out⟩
end Go.Proofs.Ytheoafenehckbaa.Ur
