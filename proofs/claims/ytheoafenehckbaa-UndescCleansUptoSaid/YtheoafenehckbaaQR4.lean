/- The reference's lists of fields and of ranges. -/
import Derived.Test.YtheoafenehckbaaQR3
import Derived.Test.YtheoafenehckbaaQSh
import Derived.LoopN
import Derived.RegionTactic
set_option maxHeartbeats 8000000
set_option maxRecDepth 100000
namespace Go.Proofs.Ytheoafenehckbaa.R1
open Go.RowKit GUndescBack YtheoafenehckbaaW.PrintWords YtheoafenehckbaaW.PrintLast YtheoafenehckbaaW.PrintMore Vb Wr Wp Rk Sp
set_option linter.unusedVariables false
set_option linter.unusedSimpArgs false
theorem fields_c (l:List S88) (hg:∀ y∈l,good88 y) (hb:(l.map bk88).sum≤4294967296) (num:Int) (hn:1≤num∧num≤536870911) (A0:Option Addr) (c0:Nat) (w:World) (hC:Kd.C k88 w A0 l.length l) :
 Calls Try.prog 29 #[.int .i64 num,.slice A0 l.length c0] w fun e w'=>Ret_ (l.flatMap fun y=>fB num (bField y)) w e w':=by
 have hlen:=flat_len bk88 num bField hn l (fun y hy=>len88_ y (by have:=sum_le bk88 l y hy;omega)) hb
 have hll:=len_sum bk88 (fun y=>by unfold bk88;omega) l
 have HL:Aside0 ((l.flatMap fun y=>fB num (bField y)).length≤1099511627776):=⟨by omega⟩
 have HS:=mk0 hb
 have HN:=mk0 hn
 have HC0:=mk0 hC
 have HB0:=mk0 (Below.refl w.heap.size w)
 replace hll:l.length < 9223372036854775807:=by omega
 clear hlen hb hn
 go_enter Try.func29,Try.ntmps29
 go_wp2
 go_loopg [5,10] l.length (fun kq v5 v10 w'=>∃ i:Nat,v10 = .int .i64 (i:Int)∧Aside0 (i+kq=l.length)∧Aside0 (Kd.R (Kd.int .u8) 5 w' w.heap.size (fun _=>True) v5 ((l.take i).flatMap fun y=>fB num (bField y)))∧Aside0 (Below w.heap.size w w'))
 case atStart=>exact ⟨0,rfl,⟨by omega⟩,⟨Kd.R_nil _ _ _ _ _⟩,⟨HB0.out⟩⟩
 case round=>
  obtain ⟨i,rfl,HI,HO,HB⟩:=hrel
  obtain ⟨acc,hacc⟩:∃ z,((l.take i).flatMap fun y=>fB num (bField y))=z:=⟨_,rfl⟩
  rw [hacc] at HO
  obtain ⟨Av,cv,ev⟩:=Kd.jk4 HO.out
  subst ev
  by_cases hlt:i < l.length
  · have hwp:=num_step i l.length hlt hll
    have d0:=dec_lt hlt
    have p0:(0≤(i:Int))=True:=eq_true (Int.natCast_nonneg i)
    have q0:((i:Int) < (l.length:Int))=True:=eq_true (Int.ofNat_lt.2 hlt)
    obtain ⟨x,hmem,hxe,htake0,hlen0⟩:=flat_step (fun y=>fB num (bField y)) l z88 i hlt
    rw [hacc] at htake0 hlen0
    have htake:=mk0 htake0
    have hlen:Aside0 (acc.length+(fB num (bField x)).length < 140737488355328):=⟨by have:=HL.out;omega⟩
    clear htake0 hlen0 hacc
    have hCw:=Kd.jj0 HC0.out HB.out
    obtain ⟨ad,cc,ea,_,hKx,hcc⟩:=Kd.C_get hCw z88 (i:Int) (Int.natCast_nonneg _) (Int.ofNat_lt.2 hlt)
    rw [Int.toNat_natCast] at hKx hcc
    rw [hxe] at hKx
    obtain ⟨A11,c11,A12,c12,ecc,l11,g11,l12,g12⟩:=k88_open hKx
    subst ecc
    obtain ⟨ex0,ex1,ex2,ex3,ex4,ex5,ex6,ex7,ex8,ex9,ex10,ex11,ex12⟩:=ez13 (m:=i*13) hcc
    subst ea
    clear hcc hKx hxe
    have hbx:bk88 x≤4294967296:=by have:=sum_le bk88 l x hmem;have:=HS.out;omega
    have HF:=fun (W:World) (hW:Below wr.heap.size wr W)=>field_c x (hg x hmem) hbx W _ (k88_mk W x l11 (Kd.jj0 g11 hW) l12 (Kd.jj0 g12 hW))
    have HZ:Aside0 ((bField x).length≤1099511627776):=⟨by have:=len88_ x hbx;omega⟩
    clear hbx
    cases gk with
    | zero=>exact absurd HI.out (fun h=>Nat.ne_of_lt hlt h)
    | succ k1=>
     go_wp2_with (first|((with_reducible refine jk0 (N:=7) rfl ?_);(try (refine gate_guard (by rfl) ?_;dsimp only));refine bzX 7 #[.string (⟨#[]⟩:ByteArray),.int .i64 0,.int .i64 0,.int .i64 0,.string (⟨#[]⟩:ByteArray),.string (⟨#[]⟩:ByteArray),.string (⟨#[]⟩:ByteArray),.bool false,.int .i64 0,.string (⟨#[]⟩:ByteArray),.bool false,.slice none 0 0,.slice none 0 0] 88 ?_;intro gb hg9 w9 hbox hb9;have HB9:=mk0 hb9;have BX9:=mk0 hbox;have HG9:=mk0 hg9;clear hb9 hbox hg9)|((with_reducible refine jjz (t:=88) (p:=7) rfl ?_);refine Sw.store_whole rfl rfl rfl gb 88 _ _ rfl rfl BX9.out (by kernel_rfl) rfl rfl ?_;intro wq hS_ hbS_ hkS_;have HBr:=mk0 (hbS_ wr.heap.size wr (Nat.le_of_eq HG9.out.symm) HB9.out);have BK:=mk0 hS_;clear hS_ hbS_ hkS_ BX9 HB9 HG9;obtain ⟨s0_,s1_,s2_,s3_,s4_,s5_,s6_,s7_,s8_,s9_,s10_,s11_,s12_⟩:=cz13 BK.out)|(go_at_call 54;(with_reducible refine (HF _ HBr.out).mono ?_);rintro e w1 ⟨v,rfl,h1,h2⟩;obtain ⟨Rf,rf,ex_⟩:=Kd.jk4 h1;subst ex_;have HCf:=mk0 (Kd.jj7 h1).2.2;have HLf:=mk0 (Kd.jj7 h1).2.1;have HBf:=mk0 (jj1 HBr.out HBr.out.size h2);clear h1 h2)|(go_at_call 51;(with_reducible refine (part_c num (bField x) Rf rf _ HN.out HZ.out HCf.out HLf.out).mono ?_);rintro e w1 ⟨v,rfl,h1,h2⟩;obtain ⟨R_,r_,ex_⟩:=Kd.jk4 h1;subst ex_;have HCp:=mk0 (Kd.jj7 h1).2.2;have hbx:=jj1 HBf.out HBf.out.size h2;have HBc:=mk0 (jj1 HB.out HB.out.size hbx);have HOc:=mk0 (Kd.jk8 HO.out hbx);clear h1 h2 hbx)|((with_reducible refine jk9 (b:=.append) (xs:=#[.tmp 14,.tmp 18]) rfl ?_);(try (refine gate_guard (by rfl) ?_;dsimp only));at_builtin;refine Kd.R_append_rows (Kd.int .u8) (w0:=w) w.heap.size rfl (.tmp 14) (.tmp 18) 28 5 (.int .u8 0) 1 rfl Try.underlying28 GUndescBack.info5 rfl (by decide) (by omega) (.slice Av acc.length cv) acc (fB num (bField x)) _ _ _ (fun _=>True) (fun _=>False) rfl rfl ?aO ?aR (fun _ _ h=>h) (fun _ h=>h.elim) ?aF ?aB ?aS ?aL ?_;(case aR=>exact HCp.out);(case aB=>exact HBc.out);(case aF=>exact fun _ _=>trivial);(case aO=>exact HOc.out);(case aS=>exact HBc.out.size);(case aL=>have h1:=hlen.out;omega);intro v1 w2 ho2 hb2 hg2 hat2;have HOn:=mk0 ho2;have HBn:=mk0 hb2;clear ho2 hb2 hg2 hat2))
     go_roundg k1
     case measure=>exact Nat.lt_succ_self k1
     case rel=>exact ⟨i+1,(by first|rfl|(rw [hwp])|(simp [hwp];done)),⟨(Nat.add_right_comm i 1 k1).trans HI.out⟩,⟨by rw [htake.out];exact HOn.out⟩,⟨HBn.out⟩⟩
  · have d0:=dec_ge hlt
    rw [List.take_of_length_le (Nat.le_of_not_lt hlt)] at hacc
    have HE:=mk0 hacc
    clear hacc
    go_wp2
    go_ret
    exact ⟨_,rfl,by rw [HE.out];exact HO.out,HB.out⟩
def ranges_t.T5:Bool × List (List Nat × List Nat):=(true,[([],[]),([],[]),([],[]),([2],[2]),([3],[3]),([],[]),([5],[5]),([6],[6]),([7],[7]),([8],[8]),([9,4],[9]),([4,10],[4,10]),([11,10],[11]),([1,12,12],[1,12]),([0,13,13],[0,13]),([14,14,0,1,2,3,4,5,6,7,8,9,10,11,12,13,14],[0,14])])
def ranges_t.B5:List Nat:=[0,0,0,4,12,0,32,96,224,480,1020,2044,4092,8190,16383,32767]
theorem ranges_t.tab5:rtab .any (opsOf Try.f52 5)=ranges_t.T5:=by kernel_rfl
theorem ranges_t.bits5:waitsOk ranges_t.T5.2 ranges_t.B5=true:=by kernel_rfl
theorem ranges_c (l:List S115) (hb:(l.map bk115).sum≤4294967296) (num:Int) (hn:1≤num∧num≤536870911) (A0:Option Addr) (c0:Nat) (w:World) (hC:Kd.C k115 w A0 l.length l) :
 Calls Try.prog 52 #[.int .i64 num,.slice A0 l.length c0] w fun e w'=>Ret_ (l.flatMap fun y=>fB num (bRange y)) w e w':=by
 have hlen:=flat_len bk115 num bRange hn l (fun y hy=>len115_ y) hb
 have hll:=len_sum bk115 (fun y=>by unfold bk115;omega) l
 have HL:Aside0 ((l.flatMap fun y=>fB num (bRange y)).length≤1099511627776):=⟨by omega⟩
 have HS:=mk0 hb
 have HN:=mk0 hn
 have HC0:=mk0 hC
 have HB0:=mk0 (Below.refl w.heap.size w)
 replace hll:l.length < 9223372036854775807:=by omega
 clear hlen hb hn
 go_enter Try.func52,Try.ntmps52
 go_wp2
 go_loopg [5,10] l.length (fun kq v5 v10 w'=>∃ i:Nat,v10 = .int .i64 (i:Int)∧Aside0 (i+kq=l.length)∧Aside0 (Kd.R (Kd.int .u8) 5 w' w.heap.size (fun _=>True) v5 ((l.take i).flatMap fun y=>fB num (bRange y)))∧Aside0 (Below w.heap.size w w'))
 case atStart=>exact ⟨0,rfl,⟨by omega⟩,⟨Kd.R_nil _ _ _ _ _⟩,⟨HB0.out⟩⟩
 case round=>
  obtain ⟨i,rfl,HI,HO,HB⟩:=hrel
  obtain ⟨acc,hacc⟩:∃ z,((l.take i).flatMap fun y=>fB num (bRange y))=z:=⟨_,rfl⟩
  rw [hacc] at HO
  obtain ⟨Av,cv,ev⟩:=Kd.jk4 HO.out
  subst ev
  by_cases hlt:i < l.length
  · have hwp:=num_step i l.length hlt hll
    have d0:=dec_lt hlt
    have p0:(0≤(i:Int))=True:=eq_true (Int.natCast_nonneg i)
    have q0:((i:Int) < (l.length:Int))=True:=eq_true (Int.ofNat_lt.2 hlt)
    obtain ⟨x,hmem,hxe,htake0,hlen0⟩:=flat_step (fun y=>fB num (bRange y)) l z115 i hlt
    rw [hacc] at htake0 hlen0
    have htake:=mk0 htake0
    have hlen:Aside0 (acc.length+(fB num (bRange x)).length < 140737488355328):=⟨by have:=HL.out;omega⟩
    clear htake0 hlen0 hacc
    have hCw:=Kd.jj0 HC0.out HB.out
    obtain ⟨ad,cc,ea,_,hKx,hcc⟩:=Kd.C_get hCw z115 (i:Int) (Int.natCast_nonneg _) (Int.ofNat_lt.2 hlt)
    rw [Int.toNat_natCast] at hKx hcc
    rw [hxe] at hKx
    have ecc:=k115_open hKx
    subst ecc
    obtain ⟨ex0,ex1⟩:=ez2 (m:=i*2) hcc
    subst ea
    clear hcc hKx hxe
    have HZ:Aside0 ((bRange x).length≤1099511627776):=⟨by have h1:=len115_ x;have h2:=sum_le bk115 l x hmem;have:=HS.out;omega⟩
    cases gk with
    | zero=>exact absurd HI.out (fun h=>Nat.ne_of_lt hlt h)
    | succ k1=>
     go_wp2_with (first|((with_reducible refine jk0 (N:=7) rfl ?_);(try (refine gate_guard (by rfl) ?_;dsimp only));refine bzX 7 #[.int .i64 0,.int .i64 0] 115 ?_;intro gb hg9 w9 hbox hb9;have HB9:=mk0 hb9;have BX9:=mk0 hbox;have HG9:=mk0 hg9;clear hb9 hbox hg9)|((with_reducible refine jjz (t:=115) (p:=7) rfl ?_);refine Sw.store_whole rfl rfl rfl gb 115 _ _ rfl rfl BX9.out (by kernel_rfl) rfl rfl ?_;intro wq hS_ hbS_ hkS_;have HBr:=mk0 (hbS_ wr.heap.size wr (Nat.le_of_eq HG9.out.symm) HB9.out);have BK:=mk0 hS_;clear hS_ hbS_ hkS_ BX9 HB9 HG9;obtain ⟨s0_,s1_⟩:=cz2 BK.out))
     have HOc:=mk0 (Kd.jk8 HO.out HBr.out)
     replace HBr:=mk0 (jj2 HBr.out)
     replace BK:=mk0 (jjq BK.out)
     replace HOc:=mk0 (Kd.R_drew HOc.out)
     refine start_ (n:=16) (S:=fun w'=>w'.cell? ⟨gb,0,none⟩=some (.int .i64 x.f0)∧w'.cell? ⟨gb,1,none⟩=some (.int .i64 x.f1)) (ds:=[]) (bzs 16 0) (by kernel_rfl) rfl rfl ⟨bzC BK 0,bzC BK 1⟩ (fun hHeld=>?_)
     refine with_tabW ranges_t.tab5 ranges_t.bits5 (fun HT_ HW_=>?_)
     generalize wq.drew=wq at HBr BK HOc hHeld ⊢
     refine pzS 0 (some 14) (bzs 16 1) HT_ ?_
     refine pzS 1 (some 15) (bzs 16 3) HT_ ?_
     refine pzS 2 (some 16) (bzs 16 7) HT_ ?_
     refine pzS 5 (some 19) (bzs 16 39) HT_ ?_
     refine tzS 3 (some 17) (bzs 16 47) HT_ HW_ hHeld ?_
     refine tzS 6 (some 20) (bzs 16 111) HT_ HW_ hHeld ?_
     refine pzS 7 (some 21) (bzs 16 239) HT_ ?_
     refine pzS 8 (some 22) (bzs 16 495) HT_ ?_
     refine pzS 9 (some 23) (bzs 16 1007) HT_ ?_
     refine one_ (i:=4) (N:=some 18) (bzs 16 1023) rfl rfl (jk2 HT_.out (by kernel_rfl)) (by decide) (fun K hK=>?_)
     refine gzO Try.func22 #[.int .i64 1,.int .i64 x.f0] ?_
     refine (number_c 1 x.f0 _ (by decide)).mono ?_
     rintro e wq ⟨v_,rfl,ho,hb⟩
     refine ⟨_,rfl,?_⟩
     replace HBr:=mk0 (jj1 HBr.out HBr.out.size hb)
     replace BK:=mk0 (jj3 BK.out hb)
     replace HOc:=mk0 (Kd.jk8 HOc.out hb)
     obtain ⟨R18,r18,ex_⟩:=Kd.jk4 ho
     subst ex_
     have HC18:=mk0 (Kd.jj7 ho).2.2
     have HL18:=mk0 (Kd.jj7 ho).2.1
     clear ho hb
     refine hK.out _ _ ⟨bzC BK 0,bzC BK 1⟩ (fun hHeld=>?_)
     clear hK K
     refine nzS (some 18) ?_
     refine one_ (i:=10) (N:=some 24) (bzs 16 2047) rfl rfl (jk2 HT_.out (by kernel_rfl)) (by decide) (fun K hK=>?_)
     refine gzO Try.func22 #[.int .i64 2,.int .i64 (wrap64 (IntKind.u64.wrap ((IntKind.u64.wrap (x.f1))+1)))] ?_
     refine (number_c 2 (wrap64 (IntKind.u64.wrap ((IntKind.u64.wrap (x.f1))+1))) _ (by decide)).mono ?_
     rintro e wq ⟨v_,rfl,ho,hb⟩
     refine ⟨_,rfl,?_⟩
     replace HBr:=mk0 (jj1 HBr.out HBr.out.size hb)
     replace BK:=mk0 (jj3 BK.out hb)
     replace HOc:=mk0 (Kd.jk8 HOc.out hb)
     replace HC18:=mk0 (Kd.jj0 HC18.out hb)
     obtain ⟨R24,r24,ex_⟩:=Kd.jk4 ho
     subst ex_
     have HC24:=mk0 (Kd.jj7 ho).2.2
     have HL24:=mk0 (Kd.jj7 ho).2.1
     clear ho hb
     refine hK.out _ _ ⟨bzC BK 0,bzC BK 1⟩ (fun hHeld=>?_)
     clear hK K
     refine nzS (some 24) ?_
     refine one_ (i:=11) (N:=some 25) (bzs 16 4095) rfl rfl (jk2 HT_.out (by kernel_rfl)) (by decide) (fun K hK=>?_)
     obtain ⟨ys,hys⟩:∃ y_:List (List Int),y_=[fN 1 x.f0,fN 2 (wrap64 (IntKind.u64.wrap ((IntKind.u64.wrap (x.f1))+1)))]:=⟨_,rfl⟩
     refine Kd.N_lit_step (Kd.slice 5 (Kd.int .u8)) (w0:=wq) wq.heap.size 28 ?hg (N':=25) ?hd (xs:=([fN 1 x.f0,fN 2 (wrap64 (IntKind.u64.wrap ((IntKind.u64.wrap (x.f1))+1)))]:List (List Int))) (inner:=[.slice R18 (fN 1 x.f0).length r18,.slice R24 (fN 2 (wrap64 (IntKind.u64.wrap ((IntKind.u64.wrap (x.f1))+1)))).length r24]) (ok:=fun _=>True) (okp:=fun k_=>k_ < wq.heap.size) ?hr ?hp (fun _ _=>trivial) trivial (Below.refl _ _) (Nat.le_refl _) (by simp) ?_
     (case hd=>rfl)
     (case hg=>rfl)
     (case hr=>first|(go_simp;done)|(go_simp;rfl))
     (case hp=>exact Reps.one (fk_ HC18.out HL18.out) (Reps.one (fk_ HC24.out HL24.out) (Reps.none _ _)))
     intro v_ wq hn hb hg_ hnew_
     clear hg_ hnew_
     rw [← hys] at hn
     replace HBr:=mk0 (jj1 HBr.out HBr.out.size hb)
     replace BK:=mk0 (jj3 BK.out hb)
     replace HOc:=mk0 (Kd.jk8 HOc.out hb)
     replace HC18:=mk0 (Kd.jj0 HC18.out hb)
     replace HC24:=mk0 (Kd.jj0 HC24.out hb)
     obtain ⟨Rz,rz,ex_⟩:=Kd.N_slice hn
     subst ex_
     have HCz:=mk0 (Kd.N_reads' hn).2.2
     clear hn hb
     have HF:=mk0 (show ys.flatten=bRange x from by rw [hys];simp [bRange])
     have HY:=mk0 (show ys.length < 1000000 from by rw [hys];simp)
     clear hys
     refine hK.out _ _ ⟨bzC BK 0,bzC BK 1⟩ (fun hHeld=>?_)
     clear hK K
     refine nzS (some 25) ?_
     refine one_ (i:=12) (N:=some 26) (bzs 16 8191) rfl rfl (jk2 HT_.out (by kernel_rfl)) (by decide) (fun K hK=>?_)
     refine gzO Try.func23 #[.slice Rz ys.length rz] ?_
     refine (all_c ys Rz rz _ HCz.out (by rw [HF.out];have:=HZ.out;omega) HY.out).mono ?_
     rintro e wq ⟨v_,rfl,ho,hb⟩
     refine ⟨_,rfl,?_⟩
     replace HBr:=mk0 (jj1 HBr.out HBr.out.size hb)
     replace BK:=mk0 (jj3 BK.out hb)
     replace HOc:=mk0 (Kd.jk8 HOc.out hb)
     replace HC18:=mk0 (Kd.jj0 HC18.out hb)
     replace HC24:=mk0 (Kd.jj0 HC24.out hb)
     replace HCz:=mk0 (Kd.jj0 HCz.out hb)
     rw [HF.out] at ho
     obtain ⟨R26,r26,ex_⟩:=Kd.jk4 ho
     subst ex_
     have HC26:=mk0 (Kd.jj7 ho).2.2
     have HL26:=mk0 (Kd.jj7 ho).2.1
     clear ho hb
     refine hK.out _ _ ⟨bzC BK 0,bzC BK 1⟩ (fun hHeld=>?_)
     clear hK K
     refine nzS (some 26) ?_
     refine one_ (i:=13) (N:=some 27) (bzs 16 16383) rfl rfl (jk2 HT_.out (by kernel_rfl)) (by decide) (fun K hK=>?_)
     refine gzO Try.func51 #[.int .i64 num,.slice R26 (bRange x).length r26] ?_
     refine (part_c num (bRange x) R26 r26 _ HN.out HZ.out HC26.out HL26.out).mono ?_
     rintro e wq ⟨v_,rfl,ho,hb⟩
     refine ⟨_,rfl,?_⟩
     replace HBr:=mk0 (jj1 HBr.out HBr.out.size hb)
     replace BK:=mk0 (jj3 BK.out hb)
     replace HOc:=mk0 (Kd.jk8 HOc.out hb)
     replace HC18:=mk0 (Kd.jj0 HC18.out hb)
     replace HC24:=mk0 (Kd.jj0 HC24.out hb)
     replace HCz:=mk0 (Kd.jj0 HCz.out hb)
     replace HC26:=mk0 (Kd.jj0 HC26.out hb)
     obtain ⟨R27,r27,ex_⟩:=Kd.jk4 ho
     subst ex_
     have HC27:=mk0 (Kd.jj7 ho).2.2
     have HL27:=mk0 (Kd.jj7 ho).2.1
     clear ho hb
     refine hK.out _ _ ⟨bzC BK 0,bzC BK 1⟩ (fun hHeld=>?_)
     clear hK K
     refine nzS (some 27) ?_
     refine one_ (i:=14) (N:=some 28) (bzs 16 32767) rfl rfl (jk2 HT_.out (by kernel_rfl)) (by decide) (fun K hK=>?_)
     refine Kd.R_append_rows_step (Kd.int .u8) (w0:=w) w.heap.size (by rfl) (.tmp 14) (.tmp 27) 28 5 (.int .u8 0) 1 rfl Try.underlying28 GUndescBack.info5 rfl (by decide) (by omega) (.slice Av acc.length cv) acc (fB num (bRange x)) _ _ _ (fun _=>True) (fun _=>False) rfl rfl HOc.out HC27.out (fun _ _ h=>h) (fun _ h=>h.elim) (fun _ _=>trivial) (jj1 HB.out HB.out.size HBr.out) (jj1 HB.out HB.out.size HBr.out).size (by have:=hlen.out;omega) ?_
     intro v1 wq ho hb hg hat
     have HOn:=mk0 ho
     have HBn:=mk0 hb
     have n_:=mk0 (blk_grown BK.out hg (Kd.R_ne HOc.out BK.out (by decide)))
     clear BK
     have BK:=n_
     clear n_
     clear ho hb hg hat
     clear HBr
     clear HOc
     clear HC18
     clear HC24
     clear HCz
     clear HC26
     clear HC27
     refine hK.out _ _ ⟨bzC BK 0,bzC BK 1⟩ (fun hHeld=>?_)
     clear hK K
     refine nzS (some 28) ?_
     refine pzS 15 (some 5) (bzs 16 65535) HT_ ?_
     refine done_ (done_of HT_.out (by kernel_rfl)) ?_
     go_wp2
     go_roundg k1
     case measure=>exact Nat.lt_succ_self k1
     case rel=>exact ⟨i+1,(by first|rfl|(rw [hwp])|(simp [hwp];done)),⟨(Nat.add_right_comm i 1 k1).trans HI.out⟩,⟨by rw [htake.out];exact HOn.out⟩,⟨HBn.out⟩⟩
  · have d0:=dec_ge hlt
    rw [List.take_of_length_le (Nat.le_of_not_lt hlt)] at hacc
    have HE:=mk0 hacc
    clear hacc
    go_wp2
    go_ret
    exact ⟨_,rfl,by rw [HE.out];exact HO.out,HB.out⟩
end Go.Proofs.Ytheoafenehckbaa.R1
