/- The reference's bytes of a file. -/
import Derived.Test.YtheoafenehckbaaQR6
import Derived.Test.YtheoafenehckbaaQSh
import Derived.Test.YtheoafenehckbaaQR7
import Derived.Test.YtheoafenehckbaaQFw
import Derived.LoopN
import Derived.RegionTactic
namespace Go.Proofs.Ytheoafenehckbaa.R1
open Go.RowKit GUndescBack YtheoafenehckbaaW.PrintWords YtheoafenehckbaaW.PrintLast YtheoafenehckbaaW.PrintMore Vb Wr Wp Rk Sp Dp Ur
set_option linter.unusedVariables false
set_option linter.unusedSimpArgs false
def rbytes_t.T9:Bool × List (List Nat × List Nat):=(true,[([],[]),([0],[0]),([1],[1]),([],[]),([3],[3]),([4,2],[4]),([],[]),([6],[6]),([7,5],[7]),([],[]),([9],[9]),([10,8],[10]),([],[]),([12],[12]),([13,11],[13]),([],[]),([15],[15]),([16,14],[16]),([],[]),([18],[18]),([19,17],[19]),([],[]),([21],[21]),([22,20],[22]),([],[]),([],[]),([25],[25]),([26,23],[26]),([],[]),([28],[28]),([2,5,8,11,14,17,20,23,24,27,29],[2,5,8,11,14,17,20,23,24,27,29]),([30,27],[30]),([31,31,0,1,2,3,4,5,6,7,8,9,10,11,12,13,14,15,16,17,18,19,20,21,22,23,24,25,26,27,28,29,30,31],[31]),([32,0,1,2,3,4,5,6,7,8,9,10,11,12,13,14,15,16,17,18,19,20,21,22,23,24,25,26,27,28,29,30,31,32],[])])
def rbytes_t.B9:List Nat:=[0,1,3,0,8,31,0,64,255,0,512,2047,0,4096,16383,0,32768,131071,0,262144,1048575,0,2097152,8388607,0,0,33554432,117440511,0,268435456,1073741823,2147483647,4294967295,8589934591]
theorem rbytes_t.tab9:rtab .any (opsOf Try.f11 9)=rbytes_t.T9:=by kernel_rfl
theorem rbytes_t.bits9:waitsOk rbytes_t.T9.2 rbytes_t.B9=true:=by kernel_rfl
def RB_ (x:S30) (w:World) (e:Ending) (w':World):Prop:=∃ v,e = .returned (.tuple #[v,.int .i64 0])∧Kd.R (Kd.int .u8) 5 w' w.heap.size (fun _=>True) v (bFile x)∧Below w.heap.size w w'
set_option maxHeartbeats 8000000 in
set_option maxRecDepth 100000 in
theorem rbytes_ok (x:S30) (g:good30 x) (hb0:bk30 x≤4294967296) (w:World) (cs:List Value) (hK:k30.K w x cs) (hd:hL x.f4≤64):Calls Try.prog 11 #[.agg cs.toArray] w fun e w'=>RB_ x w e w':=by
 obtain ⟨A2,c2,A3,c3,A4,c4,A5,c5,A6,c6,A7,c7,A9,c9,A10,c10,rfl,l2,g2,l3,g3,l4,g4,l5,g5,l6,g6,l7,g7,l9,g9,l10,g10⟩:=k30_open hK
 have HG:=mk0 g
 have HB:Aside0 (Below w.heap.size w (w.alloc (.cells #[.string x.f0,.string x.f1,.slice A2 x.f2.length c2,.slice A3 x.f3.length c3,.slice A4 x.f4.length c4,.slice A5 x.f5.length c5,.slice A6 x.f6.length c6,.slice A7 x.f7.length c7,.string x.f8,.slice A9 x.f9.length c9,.slice A10 x.f10.length c10] 30))):=⟨jj6 (Below.refl _ _) _⟩
 have BK:Aside0 ((w.alloc (.cells #[.string x.f0,.string x.f1,.slice A2 x.f2.length c2,.slice A3 x.f3.length c3,.slice A4 x.f4.length c4,.slice A5 x.f5.length c5,.slice A6 x.f6.length c6,.slice A7 x.f7.length c7,.string x.f8,.slice A9 x.f9.length c9,.slice A10 x.f10.length c10] 30)).heap[w.heap.size]?=some (.cells #[.string x.f0,.string x.f1,.slice A2 x.f2.length c2,.slice A3 x.f3.length c3,.slice A4 x.f4.length c4,.slice A5 x.f5.length c5,.slice A6 x.f6.length c6,.slice A7 x.f7.length c7,.string x.f8,.slice A9 x.f9.length c9,.slice A10 x.f10.length c10] 30 (0,0))):=⟨new1_ _ _⟩
 have hdp:decide (dp x.f4 > 64)=false:=decide_eq_false (fun h=>(dp_le _).1 h hd)
 have hbx:=hb0
 have hlx:=len30_ x hbx
 have HZ:Aside0 ((bFile x).length≤1099511627776):=⟨by omega⟩
 unfold bk30 at hbx
 rw [sum_one,sum_one,sum_one] at hbx
 have HZ0:Aside0 (x.f0.size≤1099511627776):=⟨by omega⟩
 have HZ1:Aside0 (x.f1.size≤1099511627776):=⟨by omega⟩
 have HS2:Aside0 ((x.f2.map (fun y:ByteArray=>y.size+1)).sum≤4294967296):=⟨by omega⟩
 have HS4:Aside0 ((x.f4.map bk76).sum≤4294967296):=⟨by omega⟩
 have HG4:Aside0 (∀ y∈x.f4,good76 y):=⟨g.2.2.2.2.1.2⟩
 have HS5:Aside0 ((x.f5.map bk82).sum≤4294967296):=⟨by omega⟩
 have HG5:Aside0 (∀ y∈x.f5,good82 y):=⟨g.2.2.2.2.2.1.2⟩
 have HS6:Aside0 ((x.f6.map bk51).sum≤4294967296):=⟨by omega⟩
 have HG6:Aside0 (∀ y∈x.f6,good51 y):=⟨g.2.2.2.2.2.2.1.2⟩
 have HS7:Aside0 ((x.f7.map bk88).sum≤4294967296):=⟨by omega⟩
 have HG7:Aside0 (∀ y∈x.f7,good88 y):=⟨g.2.2.2.2.2.2.2.1.2⟩
 have HZ8:Aside0 (x.f8.size≤1099511627776):=⟨by omega⟩
 have HZ9:Aside0 (x.f9.length≤1099511627776):=⟨by omega⟩
 have U9:Aside0 (Bytes x.f9):=⟨bytes_of_wf g.2.2.2.2.2.2.2.2.2.1.2⟩
 have HZ10:Aside0 (x.f10.length≤1099511627776):=⟨by omega⟩
 have U10:Aside0 (Bytes x.f10):=⟨bytes_of_wf g.2.2.2.2.2.2.2.2.2.2.2⟩
 clear hlx hbx
 have hn3:x.f3.length < 9223372036854775807:=by unfold bk30 at hb0;rw [sum_one,sum_one,sum_one] at hb0;omega
 have HN3:Aside0 ((x.f3.flatMap fun y=>fN 10 y).length≤1099511627776):=⟨by have h1:=nums_len 10 (by decide) x.f3;unfold bk30 at hb0;rw [sum_one,sum_one,sum_one] at hb0;omega⟩
 have HN3b:=mk0 hn3
 clear g hd hb0 hn3
 go_enter Try.func11,Try.ntmps11
 go_wp2_with (first|(go_at_call 8;(with_reducible refine (refdeep_c x HG.out _ [.string x.f0,.string x.f1,.slice A2 x.f2.length c2,.slice A3 x.f3.length c3,.slice A4 x.f4.length c4,.slice A5 x.f5.length c5,.slice A6 x.f6.length c6,.slice A7 x.f7.length c7,.string x.f8,.slice A9 x.f9.length c9,.slice A10 x.f10.length c10] (k30_mk _ x l2 (Kd.jj0 g2 HB.out) l3 (Kd.jj0 g3 HB.out) l4 (Kd.jj0 g4 HB.out) l5 (Kd.jj0 g5 HB.out) l6 (Kd.jj0 g6 HB.out) l7 (Kd.jj0 g7 HB.out) l9 (Kd.jj0 g9 HB.out) l10 (Kd.jj0 g10 HB.out))).mono ?_);rintro e wq ⟨rfl,hb⟩;replace HB:=mk0 (jj1 HB.out HB.out.size hb);replace BK:=mk0 (jj3 BK.out hb);clear hb;obtain ⟨p0_,p1_,p2_,p3_,p4_,p5_,p6_,p7_,p8_,p9_,p10_⟩:=cz11 BK.out))
 go_loopg [4,13] x.f3.length (fun kq v4 v13 w'=>∃ i:Nat,v13 = .int .i64 (i:Int)∧Aside0 (i+kq=x.f3.length)∧Aside0 (Kd.R (Kd.int .u8) 5 w' w.heap.size (fun _=>True) v4 ((x.f3.take i).flatMap fun y=>fN 10 y))∧Aside0 (Below w.heap.size w w')∧Aside0 (w'.heap[w.heap.size]?=some (.cells #[.string x.f0,.string x.f1,.slice A2 x.f2.length c2,.slice A3 x.f3.length c3,.slice A4 x.f4.length c4,.slice A5 x.f5.length c5,.slice A6 x.f6.length c6,.slice A7 x.f7.length c7,.string x.f8,.slice A9 x.f9.length c9,.slice A10 x.f10.length c10] 30 (0,0))))
 case atStart=>exact ⟨0,rfl,⟨by omega⟩,⟨Kd.R_nil _ _ _ _ _⟩,⟨HB.out⟩,⟨BK.out⟩⟩
 case round=>
  clear HB BK p0_ p1_ p2_ p3_ p4_ p5_ p6_ p7_ p8_ p9_ p10_
  obtain ⟨i,rfl,HI,HO,HB,BK⟩:=hrel
  obtain ⟨acc,hacc⟩:∃ z,((x.f3.take i).flatMap fun y=>fN 10 y)=z:=⟨_,rfl⟩
  rw [hacc] at HO
  obtain ⟨Av,cv,ev⟩:=Kd.jk4 HO.out
  subst ev
  by_cases hlt:i < x.f3.length
  · have hwp:=num_step i x.f3.length hlt HN3b.out
    have d0:=dec_lt hlt
    have p0:(0≤(i:Int))=True:=eq_true (Int.natCast_nonneg i)
    have q0:((i:Int) < (x.f3.length:Int))=True:=eq_true (Int.ofNat_lt.2 hlt)
    obtain ⟨y,hmem,hxe,htake0,hlen0⟩:=flat_step (fun y=>fN 10 y) x.f3 (0:Int) i hlt
    rw [hacc] at htake0 hlen0
    have htake:=mk0 htake0
    have hlen:Aside0 (acc.length+(fN 10 y).length < 140737488355328):=⟨by have:=HN3.out;omega⟩
    clear htake0 hlen0 hacc
    obtain ⟨ad,cc,ea,_,hKx,hcc⟩:=Kd.C_get (Kd.jj0 g3 HB.out) (0:Int) (i:Int) (Int.natCast_nonneg _) (Int.ofNat_lt.2 hlt)
    rw [Int.toNat_natCast] at hKx hcc
    rw [hxe] at hKx
    obtain rfl:cc=[.int .i64 y]:=hKx
    have hcell:wr.cell? (ad.add i)=some (.int .i64 y):=by have:=hcc 0 _ rfl;rwa [show i*(Kd.int .i64).sz+0=i from by show i*1+0=i;omega] at this
    have hAe:=mk0 ea
    clear hcc hxe
    cases gk with
    | zero=>exact absurd HI.out (fun h=>Nat.ne_of_lt hlt h)
    | succ k1=>
     subst ea
     go_wp2_with (first|(go_at_call 22;(with_reducible refine (number_c 10 y _ (by decide)).mono ?_);rintro e w1 ⟨v_,rfl,ho,hb⟩;obtain ⟨R_,r_,ex_⟩:=Kd.jk4 ho;subst ex_;have HCp:=mk0 (Kd.jj7 ho).2.2;have HBc:=mk0 (jj1 HB.out HB.out.size hb);have HOc:=mk0 (Kd.jk8 HO.out hb);have BKc:=mk0 (jj3 BK.out hb);clear ho hb)|((with_reducible refine jk9 (b:=.append) (xs:=#[.tmp 17,.tmp 19]) rfl ?_);(try (refine gate_guard (by rfl) ?_;dsimp only));at_builtin;refine Kd.R_append_rows (Kd.int .u8) (w0:=w) w.heap.size rfl (.tmp 17) (.tmp 19) 28 5 (.int .u8 0) 1 rfl Try.underlying28 GUndescBack.info5 rfl (by decide) (by omega) (.slice Av acc.length cv) acc (fN 10 y) _ _ _ (fun _=>True) (fun _=>False) rfl rfl ?aO ?aR (fun _ _ h=>h) (fun _ h=>h.elim) ?aF ?aB ?aS ?aL ?_;(case aR=>exact HCp.out);(case aB=>exact HBc.out);(case aF=>exact fun _ _=>trivial);(case aO=>exact HOc.out);(case aS=>exact HBc.out.size);(case aL=>have h1:=hlen.out;omega);intro v1 w2 ho2 hb2 hg2 hat2;have HOn:=mk0 ho2;have HBn:=mk0 hb2;have BKn:=mk0 (blk_grown BKc.out hg2 (Kd.R_ne HOc.out BKc.out (by decide)));clear ho2 hb2 hg2 hat2))
     go_roundg k1
     case measure=>exact Nat.lt_succ_self k1
     case rel=>exact ⟨i+1,(by first|rfl|(rw [hwp])|(simp [hwp];done)),⟨(Nat.add_right_comm i 1 k1).trans HI.out⟩,⟨by rw [htake.out];exact HOn.out⟩,⟨HBn.out⟩,⟨BKn.out⟩⟩
  · have d0:=dec_ge hlt
    rw [List.take_of_length_le (Nat.le_of_not_lt hlt)] at hacc
    have HA2:=mk0 hacc.symm
    clear hacc
    obtain ⟨wq,hwq_⟩:∃ q:World,q=wr:=⟨_,rfl⟩
    subst hwq_
    go_wp2
    have HBr:=HB
    have HCv:=mk0 (Kd.jj7 HO.out).2.2
    have HLv:=mk0 (Kd.jj7 HO.out).2.1
    clear HO HB
    replace HBr:=mk0 (jj2 HBr.out)
    replace BK:=mk0 (jjq BK.out)
    replace HCv:=mk0 (Kd.C_drew HCv.out)
    refine start_ (n:=34) (S:=fun w'=>w'.cell? ⟨w.heap.size,0,none⟩=some (.string x.f0)∧w'.cell? ⟨w.heap.size,1,none⟩=some (.string x.f1)∧w'.cell? ⟨w.heap.size,2,none⟩=some (.slice A2 x.f2.length c2)∧w'.cell? ⟨w.heap.size,4,none⟩=some (.slice A4 x.f4.length c4)∧w'.cell? ⟨w.heap.size,5,none⟩=some (.slice A5 x.f5.length c5)∧w'.cell? ⟨w.heap.size,6,none⟩=some (.slice A6 x.f6.length c6)∧w'.cell? ⟨w.heap.size,7,none⟩=some (.slice A7 x.f7.length c7)∧w'.cell? ⟨w.heap.size,8,none⟩=some (.string x.f8)∧w'.cell? ⟨w.heap.size,9,none⟩=some (.slice A9 x.f9.length c9)∧w'.cell? ⟨w.heap.size,10,none⟩=some (.slice A10 x.f10.length c10)) (ds:=[]) (bzs 34 0) (by kernel_rfl) rfl rfl ⟨bzC BK 0,bzC BK 1,bzC BK 2,bzC BK 4,bzC BK 5,bzC BK 6,bzC BK 7,bzC BK 8,bzC BK 9,bzC BK 10⟩ (fun hHeld=>?_)
    refine with_tabW rbytes_t.tab9 rbytes_t.bits9 (fun HT_ HW_=>?_)
    generalize wq.drew=wq at HBr BK HCv hHeld ⊢
    refine pzS 0 (some 22) (bzs 34 1) HT_ ?_
    refine pzS 3 (some 25) (bzs 34 9) HT_ ?_
    refine pzS 6 (some 28) (bzs 34 73) HT_ ?_
    refine pzS 9 (some 31) (bzs 34 585) HT_ ?_
    refine pzS 12 (some 34) (bzs 34 4681) HT_ ?_
    refine pzS 15 (some 37) (bzs 34 37449) HT_ ?_
    refine pzS 18 (some 40) (bzs 34 299593) HT_ ?_
    refine pzS 21 (some 43) (bzs 34 2396745) HT_ ?_
    refine pzS 24 (some 46) (bzs 34 19173961) HT_ ?_
    refine pzS 25 (some 47) (bzs 34 52728393) HT_ ?_
    refine pzS 28 (some 50) (bzs 34 321163849) HT_ ?_
    refine tzS 1 (some 23) (bzs 34 321163851) HT_ HW_ hHeld ?_
    refine tzS 4 (some 26) (bzs 34 321163867) HT_ HW_ hHeld ?_
    refine tzS 7 (some 29) (bzs 34 321163995) HT_ HW_ hHeld ?_
    refine tzS 10 (some 32) (bzs 34 321165019) HT_ HW_ hHeld ?_
    refine tzS 13 (some 35) (bzs 34 321173211) HT_ HW_ hHeld ?_
    refine tzS 16 (some 38) (bzs 34 321238747) HT_ HW_ hHeld ?_
    refine tzS 19 (some 41) (bzs 34 321763035) HT_ HW_ hHeld ?_
    refine tzS 22 (some 44) (bzs 34 325957339) HT_ HW_ hHeld ?_
    refine tzS 26 (some 48) (bzs 34 393066203) HT_ HW_ hHeld ?_
    refine tzS 29 (some 51) (bzs 34 929937115) HT_ HW_ hHeld ?_
    refine one_ (i:=2) (N:=some 24) (bzs 34 929937119) rfl rfl (jk2 HT_.out (by kernel_rfl)) (by decide) (fun K hK=>?_)
    refine gzO Try.func24 #[.int .i64 1,.string x.f0] ?_
    refine (text_c 1 x.f0 _ (by decide) HZ0.out).mono ?_
    rintro e wq ⟨v_,rfl,ho,hb⟩
    refine ⟨_,rfl,?_⟩
    replace HBr:=mk0 (jj1 HBr.out HBr.out.size hb)
    replace BK:=mk0 (jj3 BK.out hb)
    replace HCv:=mk0 (Kd.jj0 HCv.out hb)
    obtain ⟨R24,r24,ex_⟩:=Kd.jk4 ho
    subst ex_
    have HC24:=mk0 (Kd.jj7 ho).2.2
    have HL24:=mk0 (Kd.jj7 ho).2.1
    clear ho hb
    refine hK.out _ _ ⟨bzC BK 0,bzC BK 1,bzC BK 2,bzC BK 4,bzC BK 5,bzC BK 6,bzC BK 7,bzC BK 8,bzC BK 9,bzC BK 10⟩ (fun hHeld=>?_)
    clear hK K
    refine nzS (some 24) ?_
    refine one_ (i:=5) (N:=some 27) (bzs 34 929937151) rfl rfl (jk2 HT_.out (by kernel_rfl)) (by decide) (fun K hK=>?_)
    refine gzO Try.func24 #[.int .i64 2,.string x.f1] ?_
    refine (text_c 2 x.f1 _ (by decide) HZ1.out).mono ?_
    rintro e wq ⟨v_,rfl,ho,hb⟩
    refine ⟨_,rfl,?_⟩
    replace HBr:=mk0 (jj1 HBr.out HBr.out.size hb)
    replace BK:=mk0 (jj3 BK.out hb)
    replace HCv:=mk0 (Kd.jj0 HCv.out hb)
    replace HC24:=mk0 (Kd.jj0 HC24.out hb)
    obtain ⟨R27,r27,ex_⟩:=Kd.jk4 ho
    subst ex_
    have HC27:=mk0 (Kd.jj7 ho).2.2
    have HL27:=mk0 (Kd.jj7 ho).2.1
    clear ho hb
    refine hK.out _ _ ⟨bzC BK 0,bzC BK 1,bzC BK 2,bzC BK 4,bzC BK 5,bzC BK 6,bzC BK 7,bzC BK 8,bzC BK 9,bzC BK 10⟩ (fun hHeld=>?_)
    clear hK K
    refine nzS (some 27) ?_
    refine one_ (i:=8) (N:=some 30) (bzs 34 929937407) rfl rfl (jk2 HT_.out (by kernel_rfl)) (by decide) (fun K hK=>?_)
    refine gzO Try.func25 #[.int .i64 3,.slice A2 x.f2.length c2] ?_
    refine (texts_c x.f2 HS2.out 3 (by decide) A2 c2 _ (Kd.jj0 g2 HBr.out)).mono ?_
    rintro e wq ⟨v_,rfl,ho,hb⟩
    refine ⟨_,rfl,?_⟩
    replace HBr:=mk0 (jj1 HBr.out HBr.out.size hb)
    replace BK:=mk0 (jj3 BK.out hb)
    replace HCv:=mk0 (Kd.jj0 HCv.out hb)
    replace HC24:=mk0 (Kd.jj0 HC24.out hb)
    replace HC27:=mk0 (Kd.jj0 HC27.out hb)
    obtain ⟨R30,r30,ex_⟩:=Kd.jk4 ho
    subst ex_
    have HC30:=mk0 (Kd.jj7 ho).2.2
    have HL30:=mk0 (Kd.jj7 ho).2.1
    clear ho hb
    refine hK.out _ _ ⟨bzC BK 0,bzC BK 1,bzC BK 2,bzC BK 4,bzC BK 5,bzC BK 6,bzC BK 7,bzC BK 8,bzC BK 9,bzC BK 10⟩ (fun hHeld=>?_)
    clear hK K
    refine nzS (some 30) ?_
    refine one_ (i:=11) (N:=some 33) (bzs 34 929939455) rfl rfl (jk2 HT_.out (by kernel_rfl)) (by decide) (fun K hK=>?_)
    refine gzO Try.func26 #[.int .i64 4,.slice A4 x.f4.length c4] ?_
    refine (messages_c x.f4 HG4.out HS4.out 4 (by decide) A4 c4 _ (Kd.jj0 g4 HBr.out)).mono ?_
    rintro e wq ⟨v_,rfl,ho,hb⟩
    refine ⟨_,rfl,?_⟩
    replace HBr:=mk0 (jj1 HBr.out HBr.out.size hb)
    replace BK:=mk0 (jj3 BK.out hb)
    replace HCv:=mk0 (Kd.jj0 HCv.out hb)
    replace HC24:=mk0 (Kd.jj0 HC24.out hb)
    replace HC27:=mk0 (Kd.jj0 HC27.out hb)
    replace HC30:=mk0 (Kd.jj0 HC30.out hb)
    obtain ⟨R33,r33,ex_⟩:=Kd.jk4 ho
    subst ex_
    have HC33:=mk0 (Kd.jj7 ho).2.2
    have HL33:=mk0 (Kd.jj7 ho).2.1
    clear ho hb
    refine hK.out _ _ ⟨bzC BK 0,bzC BK 1,bzC BK 2,bzC BK 4,bzC BK 5,bzC BK 6,bzC BK 7,bzC BK 8,bzC BK 9,bzC BK 10⟩ (fun hHeld=>?_)
    clear hK K
    refine nzS (some 33) ?_
    refine one_ (i:=14) (N:=some 36) (bzs 34 929955839) rfl rfl (jk2 HT_.out (by kernel_rfl)) (by decide) (fun K hK=>?_)
    refine gzO Try.func27 #[.int .i64 5,.slice A5 x.f5.length c5] ?_
    refine (enums_c x.f5 HG5.out HS5.out 5 (by decide) A5 c5 _ (Kd.jj0 g5 HBr.out)).mono ?_
    rintro e wq ⟨v_,rfl,ho,hb⟩
    refine ⟨_,rfl,?_⟩
    replace HBr:=mk0 (jj1 HBr.out HBr.out.size hb)
    replace BK:=mk0 (jj3 BK.out hb)
    replace HCv:=mk0 (Kd.jj0 HCv.out hb)
    replace HC24:=mk0 (Kd.jj0 HC24.out hb)
    replace HC27:=mk0 (Kd.jj0 HC27.out hb)
    replace HC30:=mk0 (Kd.jj0 HC30.out hb)
    replace HC33:=mk0 (Kd.jj0 HC33.out hb)
    obtain ⟨R36,r36,ex_⟩:=Kd.jk4 ho
    subst ex_
    have HC36:=mk0 (Kd.jj7 ho).2.2
    have HL36:=mk0 (Kd.jj7 ho).2.1
    clear ho hb
    refine hK.out _ _ ⟨bzC BK 0,bzC BK 1,bzC BK 2,bzC BK 4,bzC BK 5,bzC BK 6,bzC BK 7,bzC BK 8,bzC BK 9,bzC BK 10⟩ (fun hHeld=>?_)
    clear hK K
    refine nzS (some 36) ?_
    refine one_ (i:=17) (N:=some 39) (bzs 34 930086911) rfl rfl (jk2 HT_.out (by kernel_rfl)) (by decide) (fun K hK=>?_)
    refine gzO Try.func28 #[.int .i64 6,.slice A6 x.f6.length c6] ?_
    refine (services_c x.f6 HG6.out HS6.out 6 (by decide) A6 c6 _ (Kd.jj0 g6 HBr.out)).mono ?_
    rintro e wq ⟨v_,rfl,ho,hb⟩
    refine ⟨_,rfl,?_⟩
    replace HBr:=mk0 (jj1 HBr.out HBr.out.size hb)
    replace BK:=mk0 (jj3 BK.out hb)
    replace HCv:=mk0 (Kd.jj0 HCv.out hb)
    replace HC24:=mk0 (Kd.jj0 HC24.out hb)
    replace HC27:=mk0 (Kd.jj0 HC27.out hb)
    replace HC30:=mk0 (Kd.jj0 HC30.out hb)
    replace HC33:=mk0 (Kd.jj0 HC33.out hb)
    replace HC36:=mk0 (Kd.jj0 HC36.out hb)
    obtain ⟨R39,r39,ex_⟩:=Kd.jk4 ho
    subst ex_
    have HC39:=mk0 (Kd.jj7 ho).2.2
    have HL39:=mk0 (Kd.jj7 ho).2.1
    clear ho hb
    refine hK.out _ _ ⟨bzC BK 0,bzC BK 1,bzC BK 2,bzC BK 4,bzC BK 5,bzC BK 6,bzC BK 7,bzC BK 8,bzC BK 9,bzC BK 10⟩ (fun hHeld=>?_)
    clear hK K
    refine nzS (some 39) ?_
    refine one_ (i:=20) (N:=some 42) (bzs 34 931135487) rfl rfl (jk2 HT_.out (by kernel_rfl)) (by decide) (fun K hK=>?_)
    refine gzO Try.func29 #[.int .i64 7,.slice A7 x.f7.length c7] ?_
    refine (fields_c x.f7 HG7.out HS7.out 7 (by decide) A7 c7 _ (Kd.jj0 g7 HBr.out)).mono ?_
    rintro e wq ⟨v_,rfl,ho,hb⟩
    refine ⟨_,rfl,?_⟩
    replace HBr:=mk0 (jj1 HBr.out HBr.out.size hb)
    replace BK:=mk0 (jj3 BK.out hb)
    replace HCv:=mk0 (Kd.jj0 HCv.out hb)
    replace HC24:=mk0 (Kd.jj0 HC24.out hb)
    replace HC27:=mk0 (Kd.jj0 HC27.out hb)
    replace HC30:=mk0 (Kd.jj0 HC30.out hb)
    replace HC33:=mk0 (Kd.jj0 HC33.out hb)
    replace HC36:=mk0 (Kd.jj0 HC36.out hb)
    replace HC39:=mk0 (Kd.jj0 HC39.out hb)
    obtain ⟨R42,r42,ex_⟩:=Kd.jk4 ho
    subst ex_
    have HC42:=mk0 (Kd.jj7 ho).2.2
    have HL42:=mk0 (Kd.jj7 ho).2.1
    clear ho hb
    refine hK.out _ _ ⟨bzC BK 0,bzC BK 1,bzC BK 2,bzC BK 4,bzC BK 5,bzC BK 6,bzC BK 7,bzC BK 8,bzC BK 9,bzC BK 10⟩ (fun hHeld=>?_)
    clear hK K
    refine nzS (some 42) ?_
    refine one_ (i:=23) (N:=some 45) (bzs 34 939524095) rfl rfl (jk2 HT_.out (by kernel_rfl)) (by decide) (fun K hK=>?_)
    refine gzO Try.func30 #[.int .i64 8,.slice A9 x.f9.length c9] ?_
    refine (bytes_c 8 x.f9 A9 c9 _ (by decide) HZ9.out U9.out (Kd.jj0 g9 HBr.out)).mono ?_
    rintro e wq ⟨v_,rfl,ho,hb⟩
    refine ⟨_,rfl,?_⟩
    replace HBr:=mk0 (jj1 HBr.out HBr.out.size hb)
    replace BK:=mk0 (jj3 BK.out hb)
    replace HCv:=mk0 (Kd.jj0 HCv.out hb)
    replace HC24:=mk0 (Kd.jj0 HC24.out hb)
    replace HC27:=mk0 (Kd.jj0 HC27.out hb)
    replace HC30:=mk0 (Kd.jj0 HC30.out hb)
    replace HC33:=mk0 (Kd.jj0 HC33.out hb)
    replace HC36:=mk0 (Kd.jj0 HC36.out hb)
    replace HC39:=mk0 (Kd.jj0 HC39.out hb)
    replace HC42:=mk0 (Kd.jj0 HC42.out hb)
    obtain ⟨R45,r45,ex_⟩:=Kd.jk4 ho
    subst ex_
    have HC45:=mk0 (Kd.jj7 ho).2.2
    have HL45:=mk0 (Kd.jj7 ho).2.1
    clear ho hb
    refine hK.out _ _ ⟨bzC BK 0,bzC BK 1,bzC BK 2,bzC BK 4,bzC BK 5,bzC BK 6,bzC BK 7,bzC BK 8,bzC BK 9,bzC BK 10⟩ (fun hHeld=>?_)
    clear hK K
    refine nzS (some 45) ?_
    refine one_ (i:=27) (N:=some 49) (bzs 34 1073741823) rfl rfl (jk2 HT_.out (by kernel_rfl)) (by decide) (fun K hK=>?_)
    refine gzO Try.func24 #[.int .i64 12,.string x.f8] ?_
    refine (text_c 12 x.f8 _ (by decide) HZ8.out).mono ?_
    rintro e wq ⟨v_,rfl,ho,hb⟩
    refine ⟨_,rfl,?_⟩
    have n0_:=mk0 (jj1 HBr.out HBr.out.size hb)
    have n1_:=mk0 (jj3 BK.out hb)
    have n2_:=mk0 (Kd.jj0 HCv.out hb)
    have n3_:=mk0 (Kd.jj0 HC24.out hb)
    have n4_:=mk0 (Kd.jj0 HC27.out hb)
    have n5_:=mk0 (Kd.jj0 HC30.out hb)
    have n6_:=mk0 (Kd.jj0 HC33.out hb)
    have n7_:=mk0 (Kd.jj0 HC36.out hb)
    have n8_:=mk0 (Kd.jj0 HC39.out hb)
    have n9_:=mk0 (Kd.jj0 HC42.out hb)
    have n10_:=mk0 (Kd.jj0 HC45.out hb)
    clear HBr BK HCv HC24 HC27 HC30 HC33 HC36 HC39 HC42 HC45
    have HBr:=n0_
    have BK:=n1_
    have HCv:=n2_
    have HC24:=n3_
    have HC27:=n4_
    have HC30:=n5_
    have HC33:=n6_
    have HC36:=n7_
    have HC39:=n8_
    have HC42:=n9_
    have HC45:=n10_
    clear n0_ n1_ n2_ n3_ n4_ n5_ n6_ n7_ n8_ n9_ n10_
    obtain ⟨R49,r49,ex_⟩:=Kd.jk4 ho
    subst ex_
    have HC49:=mk0 (Kd.jj7 ho).2.2
    have HL49:=mk0 (Kd.jj7 ho).2.1
    clear ho hb
    refine hK.out _ _ ⟨bzC BK 0,bzC BK 1,bzC BK 2,bzC BK 4,bzC BK 5,bzC BK 6,bzC BK 7,bzC BK 8,bzC BK 9,bzC BK 10⟩ (fun hHeld=>?_)
    clear hK K
    refine nzS (some 49) ?_
    refine one_ (i:=30) (N:=some 52) (bzs 34 2147483647) rfl rfl (jk2 HT_.out (by kernel_rfl)) (by decide) (fun K hK=>?_)
    obtain ⟨ys,hys⟩:∃ y_:List (List Int),y_=[tS 1 x.f0,tS 2 x.f1,(x.f2.flatMap fun y=>fB 3 (bytesOf y)),(x.f4.flatMap fun y=>fB 4 (bMessage y)),(x.f5.flatMap fun y=>fB 5 (bEnum y)),(x.f6.flatMap fun y=>fB 6 (bService y)),(x.f7.flatMap fun y=>fB 7 (bField y)),oB 8 x.f9,acc,tS 12 x.f8,x.f10]:=⟨_,rfl⟩
    refine Kd.N_lit_step (Kd.slice 5 (Kd.int .u8)) (w0:=wq) wq.heap.size 28 ?hg (N':=52) ?hd (xs:=([tS 1 x.f0,tS 2 x.f1,(x.f2.flatMap fun y=>fB 3 (bytesOf y)),(x.f4.flatMap fun y=>fB 4 (bMessage y)),(x.f5.flatMap fun y=>fB 5 (bEnum y)),(x.f6.flatMap fun y=>fB 6 (bService y)),(x.f7.flatMap fun y=>fB 7 (bField y)),oB 8 x.f9,acc,tS 12 x.f8,x.f10]:List (List Int))) (inner:=[.slice R24 (tS 1 x.f0).length r24,.slice R27 (tS 2 x.f1).length r27,.slice R30 ((x.f2.flatMap fun y=>fB 3 (bytesOf y))).length r30,.slice R33 ((x.f4.flatMap fun y=>fB 4 (bMessage y))).length r33,.slice R36 ((x.f5.flatMap fun y=>fB 5 (bEnum y))).length r36,.slice R39 ((x.f6.flatMap fun y=>fB 6 (bService y))).length r39,.slice R42 ((x.f7.flatMap fun y=>fB 7 (bField y))).length r42,.slice R45 (oB 8 x.f9).length r45,.slice Av (acc).length cv,.slice R49 (tS 12 x.f8).length r49,.slice A10 (x.f10).length c10]) (ok:=fun _=>True) (okp:=fun k_=>k_ < wq.heap.size) ?hr ?hp (fun _ _=>trivial) trivial (Below.refl _ _) (Nat.le_refl _) (by simp) ?_
    (case hd=>rfl)
    (case hg=>rfl)
    (case hr=>first|(go_simp;done)|(go_simp;rfl))
    (case hp=>exact Reps.one (fk_ HC24.out HL24.out) (Reps.one (fk_ HC27.out HL27.out) (Reps.one (fk_ HC30.out HL30.out) (Reps.one (fk_ HC33.out HL33.out) (Reps.one (fk_ HC36.out HL36.out) (Reps.one (fk_ HC39.out HL39.out) (Reps.one (fk_ HC42.out HL42.out) (Reps.one (fk_ HC45.out HL45.out) (Reps.one (fk_ HCv.out HLv.out) (Reps.one (fk_ HC49.out HL49.out) (Reps.one (fk_ (Kd.jj0 g10 HBr.out) l10) (Reps.none _ _))))))))))))
    intro v_ wq hn hb hg_ hnew_
    clear hg_ hnew_
    rw [← hys] at hn
    have n0_:=mk0 (jj1 HBr.out HBr.out.size hb)
    have n1_:=mk0 (jj3 BK.out hb)
    have n2_:=mk0 (Kd.jj0 HCv.out hb)
    have n3_:=mk0 (Kd.jj0 HC24.out hb)
    have n4_:=mk0 (Kd.jj0 HC27.out hb)
    have n5_:=mk0 (Kd.jj0 HC30.out hb)
    have n6_:=mk0 (Kd.jj0 HC33.out hb)
    have n7_:=mk0 (Kd.jj0 HC36.out hb)
    have n8_:=mk0 (Kd.jj0 HC39.out hb)
    have n9_:=mk0 (Kd.jj0 HC42.out hb)
    have n10_:=mk0 (Kd.jj0 HC45.out hb)
    have n11_:=mk0 (Kd.jj0 HC49.out hb)
    clear HBr BK HCv HC24 HC27 HC30 HC33 HC36 HC39 HC42 HC45 HC49
    have HBr:=n0_
    have BK:=n1_
    have HCv:=n2_
    have HC24:=n3_
    have HC27:=n4_
    have HC30:=n5_
    have HC33:=n6_
    have HC36:=n7_
    have HC39:=n8_
    have HC42:=n9_
    have HC45:=n10_
    have HC49:=n11_
    clear n0_ n1_ n2_ n3_ n4_ n5_ n6_ n7_ n8_ n9_ n10_ n11_
    obtain ⟨Rz,rz,ex_⟩:=Kd.N_slice hn
    subst ex_
    have HCz:=mk0 (Kd.N_reads' hn).2.2
    clear hn hb
    have HF:=mk0 (show ys.flatten=bFile x from by rw [hys];rw [HA2.out];simp [bFile])
    have HY:=mk0 (show ys.length < 1000000 from by rw [hys];simp)
    clear hys
    refine hK.out _ _ ⟨bzC BK 0,bzC BK 1,bzC BK 2,bzC BK 4,bzC BK 5,bzC BK 6,bzC BK 7,bzC BK 8,bzC BK 9,bzC BK 10⟩ (fun hHeld=>?_)
    clear hK K
    refine nzS (some 52) ?_
    refine one_ (i:=31) (N:=some 53) (bzs 34 4294967295) rfl rfl (jk2 HT_.out (by kernel_rfl)) (by decide) (fun K hK=>?_)
    refine gzO Try.func23 #[.slice Rz ys.length rz] ?_
    refine (all_c ys Rz rz _ HCz.out (by rw [HF.out];have:=HZ.out;omega) HY.out).mono ?_
    rintro e wq ⟨v_,rfl,ho,hb⟩
    refine ⟨_,rfl,?_⟩
    have HSZ:=mk0 HBr.out.size
    have n0_:=mk0 (jj1 HBr.out HBr.out.size hb)
    have n1_:=mk0 (jj3 BK.out hb)
    have n2_:=mk0 (Kd.jj0 HCv.out hb)
    have n3_:=mk0 (Kd.jj0 HC24.out hb)
    have n4_:=mk0 (Kd.jj0 HC27.out hb)
    have n5_:=mk0 (Kd.jj0 HC30.out hb)
    have n6_:=mk0 (Kd.jj0 HC33.out hb)
    have n7_:=mk0 (Kd.jj0 HC36.out hb)
    have n8_:=mk0 (Kd.jj0 HC39.out hb)
    have n9_:=mk0 (Kd.jj0 HC42.out hb)
    have n10_:=mk0 (Kd.jj0 HC45.out hb)
    have n11_:=mk0 (Kd.jj0 HC49.out hb)
    have n12_:=mk0 (Kd.jj0 HCz.out hb)
    clear HBr BK HCv HC24 HC27 HC30 HC33 HC36 HC39 HC42 HC45 HC49 HCz
    have HBr:=n0_
    have BK:=n1_
    have HCv:=n2_
    have HC24:=n3_
    have HC27:=n4_
    have HC30:=n5_
    have HC33:=n6_
    have HC36:=n7_
    have HC39:=n8_
    have HC42:=n9_
    have HC45:=n10_
    have HC49:=n11_
    have HCz:=n12_
    clear n0_ n1_ n2_ n3_ n4_ n5_ n6_ n7_ n8_ n9_ n10_ n11_ n12_
    rw [HF.out] at ho
    have HRf:=mk0 (Kd.R_lower ho HSZ.out)
    obtain ⟨R53,r53,ex_⟩:=Kd.jk4 ho
    subst ex_
    have HC53:=mk0 (Kd.jj7 ho).2.2
    have HL53:=mk0 (Kd.jj7 ho).2.1
    clear ho hb
    refine hK.out _ _ ⟨bzC BK 0,bzC BK 1,bzC BK 2,bzC BK 4,bzC BK 5,bzC BK 6,bzC BK 7,bzC BK 8,bzC BK 9,bzC BK 10⟩ (fun hHeld=>?_)
    clear hK K
    refine nzS (some 53) ?_
    refine pzS 32 (some 2) (bzs 34 8589934591) HT_ ?_
    refine pzS 33 (some 3) (bzs 34 17179869183) HT_ ?_
    refine done_ (done_of HT_.out (by kernel_rfl)) ?_
    go_wp2
    go_ret2
    exact ⟨_,rfl,HRf.out,HBr.out⟩
end Go.Proofs.Ytheoafenehckbaa.R1
