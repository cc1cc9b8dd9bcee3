/- slices.Clone. -/
import Derived.Test.YtheoafenehckbaaQCx
import Derived.Test.YtheoafenehckbaaQHg
import Derived.LoopN
import Derived.RegionTactic
set_option maxHeartbeats 8000000
set_option maxRecDepth 100000
namespace Go.Proofs.Ytheoafenehckbaa.Ur
open Go.RowKit GUndescBack YtheoafenehckbaaW.PrintWords YtheoafenehckbaaW.PrintLast YtheoafenehckbaaW.PrintMore Rk
set_option linter.unusedVariables false
set_option linter.unusedSimpArgs false
theorem ifc8:(Try.prog.info? 5).map (fun i=>(i.zero,i.size,i.bytes))=some (some (.int .u8 0),1,1):=by kernel_rfl
theorem clone8_c (l:List Int) (hl:l.length≤4294967296) (okp:Nat→Prop) (A0:Option Addr) (c0:Nat) (w:World) (HF:Kd.F (Kd.int .u8) w okp A0 l.length l) :
 Calls Try.prog 38 #[.slice A0 l.length c0] w fun e w'=>∃ A c,e = .returned (.slice A l.length c)∧l.length≤c∧Kd.F (Kd.int .u8) w' (okN okp w.heap.size) A l.length l∧Below w.heap.size w w':=by
 have HFa:=mk0 HF
 have HL:=mk0 hl
 clear hl HF
 cases A0 with
 | none=>
  have hz:l=[]:=by
   rcases Nat.eq_zero_or_pos l.length with h|h
   · exact List.length_eq_zero_iff.1 h
   · obtain ⟨ad,had,_⟩:=(Kd.F_now HFa.out).2.2 h
     exact absurd had (by simp)
  subst hz
  go_enter Try.func38,Try.ntmps38
  go_wp2
  rw [show Sem.run Try.prog (binOp BinOp.eql 28 (.slice none 0 c0) (.slice none 0 0)) w = .ok (.bool true) w from rfl]
  go_wp2
  go_ret
  exact ⟨none,0,rfl,Nat.le_refl _,Kd.F_nil _ _ _,Below.refl _ _⟩
 | some ad=>
  go_enter Try.func38,Try.ntmps38
  go_wp2
  rw [show Sem.run Try.prog (binOp BinOp.eql 28 (.slice (some ad) l.length c0) (.slice none 0 0)) w = .ok (.bool false) w from rfl]
  go_wp2_with (first|((with_reducible refine jk0 (N:=5) rfl ?_);refine Kd.N_lit (Kd.int .u8) (w0:=w) w.heap.size 5 ?hg (N':=5) ?hd (xs:=([]:List Int)) (inner:=[]) (ok:=okN okp w.heap.size) (okp:=fun _=>False) ?hr ?hp (fun _ hk=>hk.elim) (.inr (Nat.le_refl _)) (Below.refl _ _) (Nat.le_refl _) (by simp) ?_;(case hd=>rfl);(case hg=>rfl);(case hr=>first|(go_simp;done)|(go_simp;rfl));(case hp=>exact (Reps.none _ _));intro v5 w3 hN hb hg_ hnew_;have HN:=mk0 hN;have HB:=mk0 hb;have HNE:=mk0 hnew_;clear hN hb hg_ hnew_)|((with_reducible refine jk9 (b:=.append) (xs:=#[.tmp 5,.tmp 6]) rfl ?_);at_builtin;refine Kd.N_append_rows (Kd.int .u8) (w0:=w) w.heap.size rfl (.tmp 5) (.tmp 6) 28 5 (.int .u8 0) 1 rfl Try.underlying28 ifc8 rfl (by decide) (by decide) v5 [] l (some ad) l.length c0 (okN okp w.heap.size) (fun k=>okp k∧k < w.heap.size) rfl rfl HN.out (Kd.F_below (Kd.F_bound HFa.out) HB.out) (fun k hk=>⟨.inl hk.1,fun e=>by obtain ⟨b_,hb_,hle_⟩:=HNE.out;rw [hb_] at e;injection e with e;have:=hk.2;omega⟩) (fun k hk=>.inr (Nat.le_trans HB.out.size hk)) HB.out HB.out.size ?aL ?_;(case aL=>have:=HL.out;simp only [List.length_nil];omega);intro v1 w4 hN hb hg hat;have HN4:=mk0 (show Kd.N (Kd.int .u8) 5 w4 w.heap.size (okN okp w.heap.size) v1 l from hN);have HB4:=mk0 hb;clear hN hb hg hat;obtain ⟨A,c,rfl⟩:=Kd.N_slice HN4.out))
  go_ret
  exact ⟨A,c,rfl,(by have:=(Kd.N_reads' HN4.out).2.1;exact this),Kd.N_F HN4.out,HB4.out⟩
theorem ifcS:(Try.prog.info? 9).map (fun i=>(i.zero,i.size,i.bytes))=some (some (.string (⟨#[]⟩:ByteArray)),1,16):=by kernel_rfl
theorem cloneS_c (l:List ByteArray) (hl:l.length≤4294967296) (okp:Nat→Prop) (A0:Option Addr) (c0:Nat) (w:World) (HF:Kd.F Kd.string w okp A0 l.length l) :
 Calls Try.prog 39 #[.slice A0 l.length c0] w fun e w'=>∃ A c,e = .returned (.slice A l.length c)∧l.length≤c∧Kd.F Kd.string w' (okN okp w.heap.size) A l.length l∧Below w.heap.size w w':=by
 have HFa:=mk0 HF
 have HL:=mk0 hl
 clear hl HF
 cases A0 with
 | none=>
  have hz:l=[]:=by
   rcases Nat.eq_zero_or_pos l.length with h|h
   · exact List.length_eq_zero_iff.1 h
   · obtain ⟨ad,had,_⟩:=(Kd.F_now HFa.out).2.2 h
     exact absurd had (by simp)
  subst hz
  go_enter Try.func39,Try.ntmps39
  go_wp2
  rw [show Sem.run Try.prog (binOp BinOp.eql 22 (.slice none 0 c0) (.slice none 0 0)) w = .ok (.bool true) w from rfl]
  go_wp2
  go_ret
  exact ⟨none,0,rfl,Nat.le_refl _,Kd.F_nil _ _ _,Below.refl _ _⟩
 | some ad=>
  go_enter Try.func39,Try.ntmps39
  go_wp2
  rw [show Sem.run Try.prog (binOp BinOp.eql 22 (.slice (some ad) l.length c0) (.slice none 0 0)) w = .ok (.bool false) w from rfl]
  go_wp2_with (first|((with_reducible refine jk0 (N:=5) rfl ?_);refine Kd.N_lit Kd.string (w0:=w) w.heap.size 9 ?hg (N':=5) ?hd (xs:=([]:List ByteArray)) (inner:=[]) (ok:=okN okp w.heap.size) (okp:=fun _=>False) ?hr ?hp (fun _ hk=>hk.elim) (.inr (Nat.le_refl _)) (Below.refl _ _) (Nat.le_refl _) (by simp) ?_;(case hd=>rfl);(case hg=>rfl);(case hr=>first|(go_simp;done)|(go_simp;rfl));(case hp=>exact (Reps.none _ _));intro v5 w3 hN hb hg_ hnew_;have HN:=mk0 hN;have HB:=mk0 hb;have HNE:=mk0 hnew_;clear hN hb hg_ hnew_)|((with_reducible refine jk9 (b:=.append) (xs:=#[.tmp 5,.tmp 6]) rfl ?_);at_builtin;refine Kd.N_append_rows Kd.string (w0:=w) w.heap.size rfl (.tmp 5) (.tmp 6) 22 9 (.string (⟨#[]⟩:ByteArray)) 16 rfl Try.underlying22 ifcS rfl (by decide) (by decide) v5 [] l (some ad) l.length c0 (okN okp w.heap.size) (fun k=>okp k∧k < w.heap.size) rfl rfl HN.out (Kd.F_below (Kd.F_bound HFa.out) HB.out) (fun k hk=>⟨.inl hk.1,fun e=>by obtain ⟨b_,hb_,hle_⟩:=HNE.out;rw [hb_] at e;injection e with e;have:=hk.2;omega⟩) (fun k hk=>.inr (Nat.le_trans HB.out.size hk)) HB.out HB.out.size ?aL ?_;(case aL=>have:=HL.out;simp only [List.length_nil];omega);intro v1 w4 hN hb hg hat;have HN4:=mk0 (show Kd.N Kd.string 9 w4 w.heap.size (okN okp w.heap.size) v1 l from hN);have HB4:=mk0 hb;clear hN hb hg hat;obtain ⟨A,c,rfl⟩:=Kd.N_slice HN4.out))
  go_ret
  exact ⟨A,c,rfl,(by have:=(Kd.N_reads' HN4.out).2.1;exact this),Kd.N_F HN4.out,HB4.out⟩
theorem ifcI:(Try.prog.info? 3).map (fun i=>(i.zero,i.size,i.bytes))=some (some (.int .i64 0),1,8):=by kernel_rfl
theorem cloneI_c (l:List Int) (hl:l.length≤4294967296) (okp:Nat→Prop) (A0:Option Addr) (c0:Nat) (w:World) (HF:Kd.F (Kd.int .i64) w okp A0 l.length l) :
 Calls Try.prog 40 #[.slice A0 l.length c0] w fun e w'=>∃ A c,e = .returned (.slice A l.length c)∧l.length≤c∧Kd.F (Kd.int .i64) w' (okN okp w.heap.size) A l.length l∧Below w.heap.size w w':=by
 have HFa:=mk0 HF
 have HL:=mk0 hl
 clear hl HF
 cases A0 with
 | none=>
  have hz:l=[]:=by
   rcases Nat.eq_zero_or_pos l.length with h|h
   · exact List.length_eq_zero_iff.1 h
   · obtain ⟨ad,had,_⟩:=(Kd.F_now HFa.out).2.2 h
     exact absurd had (by simp)
  subst hz
  go_enter Try.func40,Try.ntmps40
  go_wp2
  rw [show Sem.run Try.prog (binOp BinOp.eql 23 (.slice none 0 c0) (.slice none 0 0)) w = .ok (.bool true) w from rfl]
  go_wp2
  go_ret
  exact ⟨none,0,rfl,Nat.le_refl _,Kd.F_nil _ _ _,Below.refl _ _⟩
 | some ad=>
  go_enter Try.func40,Try.ntmps40
  go_wp2
  rw [show Sem.run Try.prog (binOp BinOp.eql 23 (.slice (some ad) l.length c0) (.slice none 0 0)) w = .ok (.bool false) w from rfl]
  go_wp2_with (first|((with_reducible refine jk0 (N:=5) rfl ?_);refine Kd.N_lit (Kd.int .i64) (w0:=w) w.heap.size 3 ?hg (N':=5) ?hd (xs:=([]:List Int)) (inner:=[]) (ok:=okN okp w.heap.size) (okp:=fun _=>False) ?hr ?hp (fun _ hk=>hk.elim) (.inr (Nat.le_refl _)) (Below.refl _ _) (Nat.le_refl _) (by simp) ?_;(case hd=>rfl);(case hg=>rfl);(case hr=>first|(go_simp;done)|(go_simp;rfl));(case hp=>exact (Reps.none _ _));intro v5 w3 hN hb hg_ hnew_;have HN:=mk0 hN;have HB:=mk0 hb;have HNE:=mk0 hnew_;clear hN hb hg_ hnew_)|((with_reducible refine jk9 (b:=.append) (xs:=#[.tmp 5,.tmp 6]) rfl ?_);at_builtin;refine Kd.N_append_rows (Kd.int .i64) (w0:=w) w.heap.size rfl (.tmp 5) (.tmp 6) 23 3 (.int .i64 0) 8 rfl Try.underlying23 ifcI rfl (by decide) (by decide) v5 [] l (some ad) l.length c0 (okN okp w.heap.size) (fun k=>okp k∧k < w.heap.size) rfl rfl HN.out (Kd.F_below (Kd.F_bound HFa.out) HB.out) (fun k hk=>⟨.inl hk.1,fun e=>by obtain ⟨b_,hb_,hle_⟩:=HNE.out;rw [hb_] at e;injection e with e;have:=hk.2;omega⟩) (fun k hk=>.inr (Nat.le_trans HB.out.size hk)) HB.out HB.out.size ?aL ?_;(case aL=>have:=HL.out;simp only [List.length_nil];omega);intro v1 w4 hN hb hg hat;have HN4:=mk0 (show Kd.N (Kd.int .i64) 3 w4 w.heap.size (okN okp w.heap.size) v1 l from hN);have HB4:=mk0 hb;clear hN hb hg hat;obtain ⟨A,c,rfl⟩:=Kd.N_slice HN4.out))
  go_ret
  exact ⟨A,c,rfl,(by have:=(Kd.N_reads' HN4.out).2.1;exact this),Kd.N_F HN4.out,HB4.out⟩
theorem ifcR:(Try.prog.info? 115).map (fun i=>(i.zero,i.size,i.bytes))=some (some (.agg #[.int .i64 0,.int .i64 0]),2,16):=by kernel_rfl
theorem cloneR_c (l:List S115) (hl:l.length≤4294967296) (okp:Nat→Prop) (A0:Option Addr) (c0:Nat) (w:World) (HF:Kd.F k115 w okp A0 l.length l) :
 Calls Try.prog 65 #[.slice A0 l.length c0] w fun e w'=>∃ A c,e = .returned (.slice A l.length c)∧l.length≤c∧Kd.F k115 w' (okN okp w.heap.size) A l.length l∧Below w.heap.size w w':=by
 have HFa:=mk0 HF
 have HL:=mk0 hl
 clear hl HF
 cases A0 with
 | none=>
  have hz:l=[]:=by
   rcases Nat.eq_zero_or_pos l.length with h|h
   · exact List.length_eq_zero_iff.1 h
   · obtain ⟨ad,had,_⟩:=(Kd.F_now HFa.out).2.2 h
     exact absurd had (by simp)
  subst hz
  go_enter Try.func65,Try.ntmps65
  go_wp2
  rw [show Sem.run Try.prog (binOp BinOp.eql 73 (.slice none 0 c0) (.slice none 0 0)) w = .ok (.bool true) w from rfl]
  go_wp2
  go_ret
  exact ⟨none,0,rfl,Nat.le_refl _,Kd.F_nil _ _ _,Below.refl _ _⟩
 | some ad=>
  go_enter Try.func65,Try.ntmps65
  go_wp2
  rw [show Sem.run Try.prog (binOp BinOp.eql 73 (.slice (some ad) l.length c0) (.slice none 0 0)) w = .ok (.bool false) w from rfl]
  go_wp2_with (first|((with_reducible refine jk0 (N:=5) rfl ?_);refine Kd.N_lit k115 (w0:=w) w.heap.size 115 ?hg (N':=5) ?hd (xs:=([]:List S115)) (inner:=[]) (ok:=okN okp w.heap.size) (okp:=fun _=>False) ?hr ?hp (fun _ hk=>hk.elim) (.inr (Nat.le_refl _)) (Below.refl _ _) (Nat.le_refl _) (by simp) ?_;(case hd=>rfl);(case hg=>rfl);(case hr=>first|(go_simp;done)|(go_simp;rfl));(case hp=>exact (Reps.none _ _));intro v5 w3 hN hb hg_ hnew_;have HN:=mk0 hN;have HB:=mk0 hb;have HNE:=mk0 hnew_;clear hN hb hg_ hnew_)|((with_reducible refine jk9 (b:=.append) (xs:=#[.tmp 5,.tmp 6]) rfl ?_);at_builtin;refine Kd.N_append_rows k115 (w0:=w) w.heap.size rfl (.tmp 5) (.tmp 6) 73 115 (.agg #[.int .i64 0,.int .i64 0]) 16 rfl Try.underlying73 ifcR rfl (by decide) (by decide) v5 [] l (some ad) l.length c0 (okN okp w.heap.size) (fun k=>okp k∧k < w.heap.size) rfl rfl HN.out (Kd.F_below (Kd.F_bound HFa.out) HB.out) (fun k hk=>⟨.inl hk.1,fun e=>by obtain ⟨b_,hb_,hle_⟩:=HNE.out;rw [hb_] at e;injection e with e;have:=hk.2;omega⟩) (fun k hk=>.inr (Nat.le_trans HB.out.size hk)) HB.out HB.out.size ?aL ?_;(case aL=>have:=HL.out;simp only [List.length_nil];omega);intro v1 w4 hN hb hg hat;have HN4:=mk0 (show Kd.N k115 115 w4 w.heap.size (okN okp w.heap.size) v1 l from hN);have HB4:=mk0 hb;clear hN hb hg hat;obtain ⟨A,c,rfl⟩:=Kd.N_slice HN4.out))
  go_ret
  exact ⟨A,c,rfl,(by have:=(Kd.N_reads' HN4.out).2.1;exact this),Kd.N_F HN4.out,HB4.out⟩
end Go.Proofs.Ytheoafenehckbaa.Ur
