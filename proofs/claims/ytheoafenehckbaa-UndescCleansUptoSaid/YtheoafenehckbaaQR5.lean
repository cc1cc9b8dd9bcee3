/- The reference's lists of enums. -/
import Derived.Test.YtheoafenehckbaaQR4
import Derived.Test.YtheoafenehckbaaQSh
import Derived.LoopN
import Derived.RegionTactic
namespace Go.Proofs.Ytheoafenehckbaa.R1
open Go.RowKit GUndescBack YtheoafenehckbaaW.PrintWords YtheoafenehckbaaW.PrintLast YtheoafenehckbaaW.PrintMore Vb Wr Wp Rk Sp
set_option linter.unusedVariables false
set_option linter.unusedSimpArgs false
def enums_t.T9:Bool × List (List Nat × List Nat):=(true,[([],[]),([],[]),([1],[1]),([2],[2]),([],[]),([4],[4]),([5,3],[5]),([],[]),([7],[7]),([8,6],[8]),([],[]),([10],[10]),([3,6,9,11],[3,6,9,11]),([12,9],[12]),([13,13],[13]),([0,14,14],[0,14]),([15,15,0,1,2,3,4,5,6,7,8,9,10,11,12,13,14,15],[0,15])])
def enums_t.B9:List Nat:=[0,0,2,6,0,16,62,0,128,510,0,1024,4094,8190,16382,32767,65535]
theorem enums_t.tab9:rtab .any (opsOf Try.f27 9)=enums_t.T9:=by kernel_rfl
theorem enums_t.bits9:waitsOk enums_t.T9.2 enums_t.B9=true:=by kernel_rfl
def enums_t.T11:Bool × List (List Nat × List Nat):=(true,[([],[]),([],[]),([],[]),([2],[2]),([3],[3]),([],[]),([],[]),([6],[6]),([7,4],[7]),([],[]),([9],[9]),([4,5,8,10],[4,5,8,10]),([11,8],[11]),([1,12,12],[1,12]),([0,13,13],[0,13]),([14,14,0,1,2,3,4,5,6,7,8,9,10,11,12,13,14],[0,14])])
def enums_t.B11:List Nat:=[0,0,0,4,12,0,0,64,220,0,512,2044,4092,8190,16383,32767]
theorem enums_t.tab11:rtab .any (opsOf Try.f27 11)=enums_t.T11:=by kernel_rfl
theorem enums_t.bits11:waitsOk enums_t.T11.2 enums_t.B11=true:=by kernel_rfl
set_option maxHeartbeats 8000000 in
set_option maxRecDepth 100000 in
theorem enums_c (l:List S82) (hg:∀ y∈l,good82 y) (hb:(l.map bk82).sum≤4294967296) (num:Int) (hn:1≤num∧num≤536870911) (A0:Option Addr) (c0:Nat) (w:World) (hC:Kd.C k82 w A0 l.length l) :
 Calls Try.prog 27 #[.int .i64 num,.slice A0 l.length c0] w fun e w'=>Ret_ (l.flatMap fun y=>fB num (bEnum y)) w e w':=by
 have hlen:=flat_len bk82 num bEnum hn l (fun y hy=>len82_ y (by have:=sum_le bk82 l y hy;omega)) hb
 have hll:=len_sum bk82 (fun y=>by unfold bk82;omega) l
 have HL:Aside0 ((l.flatMap fun y=>fB num (bEnum y)).length≤1099511627776):=⟨by omega⟩
 have HS:=mk0 hb
 have HN:=mk0 hn
 have HC0:=mk0 hC
 have HB0:=mk0 (Below.refl w.heap.size w)
 replace hll:l.length < 9223372036854775807:=by omega
 clear hlen hb hn
 go_enter Try.func27,Try.ntmps27
 go_wp2
 go_loopg [5,13] l.length (fun kq v5 v13 w'=>∃ i:Nat,v13 = .int .i64 (i:Int)∧Aside0 (i+kq=l.length)∧Aside0 (Kd.R (Kd.int .u8) 5 w' w.heap.size (fun _=>True) v5 ((l.take i).flatMap fun y=>fB num (bEnum y)))∧Aside0 (Below w.heap.size w w'))
 case atStart=>exact ⟨0,rfl,⟨by omega⟩,⟨Kd.R_nil _ _ _ _ _⟩,⟨HB0.out⟩⟩
 case round=>
  obtain ⟨i,rfl,HI,HO,HB⟩:=hrel
  obtain ⟨acc,hacc⟩:∃ z,((l.take i).flatMap fun y=>fB num (bEnum y))=z:=⟨_,rfl⟩
  rw [hacc] at HO
  obtain ⟨Av,cv,ev⟩:=Kd.jk4 HO.out
  subst ev
  by_cases hlt:i < l.length
  · have hwp:=num_step i l.length hlt hll
    have d0:=dec_lt hlt
    have p0:(0≤(i:Int))=True:=eq_true (Int.natCast_nonneg i)
    have q0:((i:Int) < (l.length:Int))=True:=eq_true (Int.ofNat_lt.2 hlt)
    obtain ⟨x,hmem,hxe,htake0,hlen0⟩:=flat_step (fun y=>fB num (bEnum y)) l z82 i hlt
    rw [hacc] at htake0 hlen0
    have htake:=mk0 htake0
    have hlen:Aside0 (acc.length+(fB num (bEnum x)).length < 140737488355328):=⟨by have:=HL.out;omega⟩
    clear htake0 hlen0 hacc
    have hCw:=Kd.jj0 HC0.out HB.out
    obtain ⟨ad,cc,ea,_,hKx,hcc⟩:=Kd.C_get hCw z82 (i:Int) (Int.natCast_nonneg _) (Int.ofNat_lt.2 hlt)
    rw [Int.toNat_natCast] at hKx hcc
    rw [hxe] at hKx
    obtain ⟨A1,c1,A2,c2,A3,c3,ecc,l1,g1,l2,g2,l3,g3⟩:=k82_open hKx
    subst ecc
    obtain ⟨ex0,ex1,ex2,ex3⟩:=ez4 (m:=i*4) hcc
    subst ea
    clear hcc hKx hxe
    have hbx:bk82 x≤4294967296:=by have:=sum_le bk82 l x hmem;have:=HS.out;omega
    have hgx:=hg x hmem
    have hlx:=len82_ x hbx
    have HZ:Aside0 ((bEnum x).length≤1099511627776):=⟨by omega⟩
    unfold bk82 at hbx
    rw [sum_one,sum_one] at hbx
    have HZ0:Aside0 (x.f0.size≤1099511627776):=⟨by omega⟩
    have HS1:Aside0 ((x.f1.map bk93).sum≤4294967296):=⟨by omega⟩
    have HG1:Aside0 (∀ y∈x.f1,good93 y):=⟨hgx.2.1.2⟩
    have HZ2:Aside0 (x.f2.length≤1099511627776):=⟨by omega⟩
    have U2:Aside0 (Bytes x.f2):=⟨bytes_of_wf hgx.2.2.1.2⟩
    have HZ3:Aside0 (x.f3.length≤1099511627776):=⟨by omega⟩
    have U3:Aside0 (Bytes x.f3):=⟨bytes_of_wf hgx.2.2.2.2⟩
    clear hlx hbx
    have HLL:=mk0 hll
    clear hll
    cases gk with
    | zero=>exact absurd HI.out (fun h=>Nat.ne_of_lt hlt h)
    | succ k1=>
     go_wp2_with (first|((with_reducible refine jk0 (N:=7) rfl ?_);(try (refine gate_guard (by rfl) ?_;dsimp only));refine bzX 7 #[.string (⟨#[]⟩:ByteArray),.slice none 0 0,.slice none 0 0,.slice none 0 0] 82 ?_;intro gb hg9 w9 hbox hb9;have HB9:=mk0 hb9;have BX9:=mk0 hbox;have HG9:=mk0 hg9;clear hb9 hbox hg9)|((with_reducible refine jjz (t:=82) (p:=7) rfl ?_);refine Sw.store_whole rfl rfl rfl gb 82 _ _ rfl rfl BX9.out (by kernel_rfl) rfl rfl ?_;intro wq hS_ hbS_ hkS_;have HBr:=mk0 (hbS_ wr.heap.size wr (Nat.le_of_eq HG9.out.symm) HB9.out);have BK:=mk0 hS_;clear hS_ hbS_ hkS_ BX9 HB9 HG9;obtain ⟨s0_,s1_,s2_,s3_⟩:=cz4 BK.out))
     obtain ⟨wo,hwo_⟩:∃ q:World,q=wr:=⟨_,rfl⟩
     subst hwo_
     have HBo:=HB
     have HRo:=HO
     have BKo:=BK
     have HLo:=hlen
     have HTo:=htake
     clear HB HO BK hlen htake hwp d0 p0 q0
     have hl2:x.f1.length < 9223372036854775807:=by have h1:=len_sum bk93 (fun y=>by unfold bk93;omega) x.f1;have:=HS1.out;omega
     have HL2:Aside0 ((x.f1.flatMap fun y=>fB 2 (bValue y)).length≤1099511627776):=⟨by have h1:=flat_len bk93 2 bValue (by decide) x.f1 (fun y hy=>len93_ y (by have:=sum_le bk93 x.f1 y hy;have:=HS1.out;omega)) HS1.out;have:=HS1.out;omega⟩
     have HL2b:=mk0 hl2
     clear hl2
     go_loopg [8,20] x.f1.length (fun kq v8 v20 w'=>∃ k:Nat,v20 = .int .i64 (k:Int)∧Aside0 (k+kq=x.f1.length)∧Aside0 (Kd.R (Kd.int .u8) 5 w' wo.heap.size (fun _=>True) v8 ((x.f1.take k).flatMap fun y=>fB 2 (bValue y)))∧Aside0 (Below wo.heap.size wo w')∧Aside0 (w'.heap[gb]?=some (.cells #[.string x.f0,.slice A1 x.f1.length c1,.slice A2 x.f2.length c2,.slice A3 x.f3.length c3] 82 (0,0))))
     case atStart=>exact ⟨0,rfl,⟨by omega⟩,⟨Kd.R_nil _ _ _ _ _⟩,⟨HBr.out⟩,⟨BKo.out⟩⟩
     case round=>
      clear HBr BKo s0_ s1_ s2_ s3_
      obtain ⟨k,rfl,HI2,HV,HBi,BK⟩:=hrel
      obtain ⟨acc2,hacc2⟩:∃ z,((x.f1.take k).flatMap fun y=>fB 2 (bValue y))=z:=⟨_,rfl⟩
      rw [hacc2] at HV
      obtain ⟨Av2,cv2,ev2⟩:=Kd.jk4 HV.out
      subst ev2
      by_cases hlt2:k < x.f1.length
      · have hwp:=num_step k x.f1.length hlt2 HL2b.out
        have d0:=dec_lt hlt2
        have p0:(0≤(k:Int))=True:=eq_true (Int.natCast_nonneg k)
        have q0:((k:Int) < (x.f1.length:Int))=True:=eq_true (Int.ofNat_lt.2 hlt2)
        obtain ⟨y,hmem2,hxe,htake0,hlen0⟩:=flat_step (fun y=>fB 2 (bValue y)) x.f1 z93 k hlt2
        rw [hacc2] at htake0 hlen0
        have htake:=mk0 htake0
        have hlen:Aside0 (acc2.length+(fB 2 (bValue y)).length < 140737488355328):=⟨by have:=HL2.out;omega⟩
        clear htake0 hlen0 hacc2
        have hC2:=Kd.jj0 g1 HBi.out
        have hby:bk93 y≤4294967296:=by have:=sum_le bk93 x.f1 y hmem2;have:=HS1.out;omega
        have hgy:=HG1.out y hmem2
        obtain ⟨bd,cc,ea,_,hKx,hcc⟩:=Kd.C_get hC2 z93 (k:Int) (Int.natCast_nonneg _) (Int.ofNat_lt.2 hlt2)
        rw [Int.toNat_natCast] at hKx hcc
        rw [hxe] at hKx
        obtain ⟨B2,d2,B3,d3,ecc,m2,h2,m3,h3⟩:=k93_open hKx
        subst ecc
        obtain ⟨ey0,ey1,ey2,ey3⟩:=ez4 (m:=k*4) hcc
        subst ea
        clear hcc hKx hxe
        have hlx:=len93_ y hby
        have YZ:Aside0 ((bValue y).length≤1099511627776):=⟨by omega⟩
        unfold bk93 at hby
        rw [sum_one,sum_one] at hby
        have YZ0:Aside0 (y.f0.size≤1099511627776):=⟨by omega⟩
        have YZ2:Aside0 (y.f2.length≤1099511627776):=⟨by omega⟩
        have YU2:Aside0 (Bytes y.f2):=⟨bytes_of_wf hgy.2.2.1.2⟩
        have YZ3:Aside0 (y.f3.length≤1099511627776):=⟨by omega⟩
        have YU3:Aside0 (Bytes y.f3):=⟨bytes_of_wf hgy.2.2.2.2⟩
        clear hlx hby
        cases gk with
        | zero=>exact absurd HI2.out (fun h=>Nat.ne_of_lt hlt2 h)
        | succ k2=>
         go_wp2_with (first|((with_reducible refine jk0 (N:=10) rfl ?_);(try (refine gate_guard (by rfl) ?_;dsimp only));refine bzX 10 #[.string (⟨#[]⟩:ByteArray),.int .i64 0,.slice none 0 0,.slice none 0 0] 93 ?_;intro gc hg9 w9 hbox hb9;have HB9:=mk0 hb9;have BX9:=mk0 hbox;have HG9:=mk0 hg9;clear hb9 hbox hg9)|((with_reducible refine jjz (t:=93) (p:=10) rfl ?_);refine Sw.store_whole rfl rfl rfl gc 93 _ _ rfl rfl BX9.out (by kernel_rfl) rfl rfl ?_;intro wq hS_ hbS_ hkS_;have HBr:=mk0 (hbS_ wr.heap.size wr (Nat.le_of_eq HG9.out.symm) HB9.out);have BC:=mk0 hS_;clear hS_ hbS_ hkS_ BX9 HB9 HG9;obtain ⟨s0_,s1_,s2_,s3_⟩:=cz4 BC.out))
         have HVc:=mk0 (Kd.jk8 HV.out HBr.out)
         have BKc:=mk0 (jj3 BK.out HBr.out)
         replace HBr:=mk0 (jj2 HBr.out)
         replace BC:=mk0 (jjq BC.out)
         replace BKc:=mk0 (jjq BKc.out)
         replace HVc:=mk0 (Kd.R_drew HVc.out)
         refine start_ (n:=17) (S:=fun w'=>w'.cell? ⟨gc,0,none⟩=some (.string y.f0)∧w'.cell? ⟨gc,1,none⟩=some (.int .i64 y.f1)∧w'.cell? ⟨gc,2,none⟩=some (.slice B2 y.f2.length d2)∧w'.cell? ⟨gc,3,none⟩=some (.slice B3 y.f3.length d3)) (ds:=[]) (bzs 17 0) (by kernel_rfl) rfl rfl ⟨bzC BC 0,bzC BC 1,bzC BC 2,bzC BC 3⟩ (fun hHeld=>?_)
         refine with_tabW enums_t.tab9 enums_t.bits9 (fun HT_ HW_=>?_)
         generalize wq.drew=wq at HBr BC BKc HVc hHeld ⊢
         refine pzS 0 (some 24) (bzs 17 1) HT_ ?_
         refine pzS 1 (some 25) (bzs 17 3) HT_ ?_
         refine pzS 4 (some 28) (bzs 17 19) HT_ ?_
         refine pzS 7 (some 31) (bzs 17 147) HT_ ?_
         refine pzS 10 (some 34) (bzs 17 1171) HT_ ?_
         refine tzS 2 (some 26) (bzs 17 1175) HT_ HW_ hHeld ?_
         refine tzS 5 (some 29) (bzs 17 1207) HT_ HW_ hHeld ?_
         refine tzS 8 (some 32) (bzs 17 1463) HT_ HW_ hHeld ?_
         refine tzS 11 (some 35) (bzs 17 3511) HT_ HW_ hHeld ?_
         refine one_ (i:=3) (N:=some 27) (bzs 17 3519) rfl rfl (jk2 HT_.out (by kernel_rfl)) (by decide) (fun K hK=>?_)
         refine gzO Try.func24 #[.int .i64 1,.string y.f0] ?_
         refine (text_c 1 y.f0 _ (by decide) YZ0.out).mono ?_
         rintro e wq ⟨v_,rfl,ho,hb⟩
         refine ⟨_,rfl,?_⟩
         replace HBr:=mk0 (jj1 HBr.out HBr.out.size hb)
         replace BC:=mk0 (jj3 BC.out hb)
         replace BKc:=mk0 (jj3 BKc.out hb)
         replace HVc:=mk0 (Kd.jk8 HVc.out hb)
         obtain ⟨R27,r27,ex_⟩:=Kd.jk4 ho
         subst ex_
         have HC27:=mk0 (Kd.jj7 ho).2.2
         have HL27:=mk0 (Kd.jj7 ho).2.1
         clear ho hb
         refine hK.out _ _ ⟨bzC BC 0,bzC BC 1,bzC BC 2,bzC BC 3⟩ (fun hHeld=>?_)
         clear hK K
         refine nzS (some 27) ?_
         refine one_ (i:=6) (N:=some 30) (bzs 17 3583) rfl rfl (jk2 HT_.out (by kernel_rfl)) (by decide) (fun K hK=>?_)
         refine gzO Try.func22 #[.int .i64 2,.int .i64 y.f1] ?_
         refine (number_c 2 y.f1 _ (by decide)).mono ?_
         rintro e wq ⟨v_,rfl,ho,hb⟩
         refine ⟨_,rfl,?_⟩
         replace HBr:=mk0 (jj1 HBr.out HBr.out.size hb)
         replace BC:=mk0 (jj3 BC.out hb)
         replace BKc:=mk0 (jj3 BKc.out hb)
         replace HVc:=mk0 (Kd.jk8 HVc.out hb)
         replace HC27:=mk0 (Kd.jj0 HC27.out hb)
         obtain ⟨R30,r30,ex_⟩:=Kd.jk4 ho
         subst ex_
         have HC30:=mk0 (Kd.jj7 ho).2.2
         have HL30:=mk0 (Kd.jj7 ho).2.1
         clear ho hb
         refine hK.out _ _ ⟨bzC BC 0,bzC BC 1,bzC BC 2,bzC BC 3⟩ (fun hHeld=>?_)
         clear hK K
         refine nzS (some 30) ?_
         refine one_ (i:=9) (N:=some 33) (bzs 17 4095) rfl rfl (jk2 HT_.out (by kernel_rfl)) (by decide) (fun K hK=>?_)
         refine gzO Try.func30 #[.int .i64 3,.slice B2 y.f2.length d2] ?_
         refine (bytes_c 3 y.f2 B2 d2 _ (by decide) YZ2.out YU2.out (Kd.jj0 h2 HBr.out)).mono ?_
         rintro e wq ⟨v_,rfl,ho,hb⟩
         refine ⟨_,rfl,?_⟩
         replace HBr:=mk0 (jj1 HBr.out HBr.out.size hb)
         replace BC:=mk0 (jj3 BC.out hb)
         replace BKc:=mk0 (jj3 BKc.out hb)
         replace HVc:=mk0 (Kd.jk8 HVc.out hb)
         replace HC27:=mk0 (Kd.jj0 HC27.out hb)
         replace HC30:=mk0 (Kd.jj0 HC30.out hb)
         obtain ⟨R33,r33,ex_⟩:=Kd.jk4 ho
         subst ex_
         have HC33:=mk0 (Kd.jj7 ho).2.2
         have HL33:=mk0 (Kd.jj7 ho).2.1
         clear ho hb
         refine hK.out _ _ ⟨bzC BC 0,bzC BC 1,bzC BC 2,bzC BC 3⟩ (fun hHeld=>?_)
         clear hK K
         refine nzS (some 33) ?_
         refine one_ (i:=12) (N:=some 36) (bzs 17 8191) rfl rfl (jk2 HT_.out (by kernel_rfl)) (by decide) (fun K hK=>?_)
         obtain ⟨ys,hys⟩:∃ y_:List (List Int),y_=[tS 1 y.f0,fN 2 y.f1,oB 3 y.f2,y.f3]:=⟨_,rfl⟩
         refine Kd.N_lit_step (Kd.slice 5 (Kd.int .u8)) (w0:=wq) wq.heap.size 28 ?hg (N':=36) ?hd (xs:=([tS 1 y.f0,fN 2 y.f1,oB 3 y.f2,y.f3]:List (List Int))) (inner:=[.slice R27 (tS 1 y.f0).length r27,.slice R30 (fN 2 y.f1).length r30,.slice R33 (oB 3 y.f2).length r33,.slice B3 (y.f3).length d3]) (ok:=fun _=>True) (okp:=fun k_=>k_ < wq.heap.size) ?hr ?hp (fun _ _=>trivial) trivial (Below.refl _ _) (Nat.le_refl _) (by simp) ?_
         (case hd=>rfl)
         (case hg=>rfl)
         (case hr=>first|(go_simp;done)|(go_simp;rfl))
         (case hp=>exact Reps.one (fk_ HC27.out HL27.out) (Reps.one (fk_ HC30.out HL30.out) (Reps.one (fk_ HC33.out HL33.out) (Reps.one (fk_ (Kd.jj0 h3 HBr.out) m3) (Reps.none _ _)))))
         intro v_ wq hn hb hg_ hnew_
         clear hg_ hnew_
         rw [← hys] at hn
         replace HBr:=mk0 (jj1 HBr.out HBr.out.size hb)
         replace BC:=mk0 (jj3 BC.out hb)
         replace BKc:=mk0 (jj3 BKc.out hb)
         replace HVc:=mk0 (Kd.jk8 HVc.out hb)
         replace HC27:=mk0 (Kd.jj0 HC27.out hb)
         replace HC30:=mk0 (Kd.jj0 HC30.out hb)
         replace HC33:=mk0 (Kd.jj0 HC33.out hb)
         obtain ⟨Rz,rz,ex_⟩:=Kd.N_slice hn
         subst ex_
         have HCz:=mk0 (Kd.N_reads' hn).2.2
         clear hn hb
         have HF:=mk0 (show ys.flatten=bValue y from by rw [hys];simp [bValue])
         have HY:=mk0 (show ys.length < 1000000 from by rw [hys];simp)
         clear hys
         refine hK.out _ _ ⟨bzC BC 0,bzC BC 1,bzC BC 2,bzC BC 3⟩ (fun hHeld=>?_)
         clear hK K
         refine nzS (some 36) ?_
         refine one_ (i:=13) (N:=some 37) (bzs 17 16383) rfl rfl (jk2 HT_.out (by kernel_rfl)) (by decide) (fun K hK=>?_)
         refine gzO Try.func23 #[.slice Rz ys.length rz] ?_
         refine (all_c ys Rz rz _ HCz.out (by rw [HF.out];have:=YZ.out;omega) HY.out).mono ?_
         rintro e wq ⟨v_,rfl,ho,hb⟩
         refine ⟨_,rfl,?_⟩
         replace HBr:=mk0 (jj1 HBr.out HBr.out.size hb)
         replace BC:=mk0 (jj3 BC.out hb)
         replace BKc:=mk0 (jj3 BKc.out hb)
         replace HVc:=mk0 (Kd.jk8 HVc.out hb)
         replace HC27:=mk0 (Kd.jj0 HC27.out hb)
         replace HC30:=mk0 (Kd.jj0 HC30.out hb)
         replace HC33:=mk0 (Kd.jj0 HC33.out hb)
         replace HCz:=mk0 (Kd.jj0 HCz.out hb)
         rw [HF.out] at ho
         obtain ⟨R37,r37,ex_⟩:=Kd.jk4 ho
         subst ex_
         have HC37:=mk0 (Kd.jj7 ho).2.2
         have HL37:=mk0 (Kd.jj7 ho).2.1
         clear ho hb
         refine hK.out _ _ ⟨bzC BC 0,bzC BC 1,bzC BC 2,bzC BC 3⟩ (fun hHeld=>?_)
         clear hK K
         refine nzS (some 37) ?_
         refine one_ (i:=14) (N:=some 38) (bzs 17 32767) rfl rfl (jk2 HT_.out (by kernel_rfl)) (by decide) (fun K hK=>?_)
         refine gzO Try.func51 #[.int .i64 2,.slice R37 (bValue y).length r37] ?_
         refine (part_c 2 (bValue y) R37 r37 _ (by decide) YZ.out HC37.out HL37.out).mono ?_
         rintro e wq ⟨v_,rfl,ho,hb⟩
         refine ⟨_,rfl,?_⟩
         replace HBr:=mk0 (jj1 HBr.out HBr.out.size hb)
         replace BC:=mk0 (jj3 BC.out hb)
         replace BKc:=mk0 (jj3 BKc.out hb)
         replace HVc:=mk0 (Kd.jk8 HVc.out hb)
         replace HC27:=mk0 (Kd.jj0 HC27.out hb)
         replace HC30:=mk0 (Kd.jj0 HC30.out hb)
         replace HC33:=mk0 (Kd.jj0 HC33.out hb)
         replace HCz:=mk0 (Kd.jj0 HCz.out hb)
         replace HC37:=mk0 (Kd.jj0 HC37.out hb)
         obtain ⟨R38,r38,ex_⟩:=Kd.jk4 ho
         subst ex_
         have HC38:=mk0 (Kd.jj7 ho).2.2
         have HL38:=mk0 (Kd.jj7 ho).2.1
         clear ho hb
         refine hK.out _ _ ⟨bzC BC 0,bzC BC 1,bzC BC 2,bzC BC 3⟩ (fun hHeld=>?_)
         clear hK K
         refine nzS (some 38) ?_
         refine one_ (i:=15) (N:=some 39) (bzs 17 65535) rfl rfl (jk2 HT_.out (by kernel_rfl)) (by decide) (fun K hK=>?_)
         refine Kd.R_append_rows_step (Kd.int .u8) (w0:=wo) wo.heap.size (by rfl) (.tmp 24) (.tmp 38) 28 5 (.int .u8 0) 1 rfl Try.underlying28 GUndescBack.info5 rfl (by decide) (by omega) (.slice Av2 acc2.length cv2) acc2 (fB 2 (bValue y)) _ _ _ (fun _=>True) (fun _=>False) rfl rfl HVc.out HC38.out (fun _ _ h=>h) (fun _ h=>h.elim) (fun _ _=>trivial) (jj1 HBi.out HBi.out.size HBr.out) (jj1 HBi.out HBi.out.size HBr.out).size (by have:=hlen.out;omega) ?_
         intro v1 wq ho hb hg hat
         have HOn:=mk0 ho
         have HBn:=mk0 hb
         have n_:=mk0 (blk_grown BC.out hg (Kd.R_ne HVc.out BC.out (by decide)))
         clear BC
         have BC:=n_
         clear n_
         have n_:=mk0 (blk_grown BKc.out hg (Kd.R_ne HVc.out BKc.out (by decide)))
         clear BKc
         have BKc:=n_
         clear n_
         clear ho hb hg hat
         clear HBr
         clear HVc
         clear HC27
         clear HC30
         clear HC33
         clear HCz
         clear HC37
         clear HC38
         refine hK.out _ _ ⟨bzC BC 0,bzC BC 1,bzC BC 2,bzC BC 3⟩ (fun hHeld=>?_)
         clear hK K
         refine nzS (some 39) ?_
         refine pzS 16 (some 8) (bzs 17 131071) HT_ ?_
         refine done_ (done_of HT_.out (by kernel_rfl)) ?_
         go_wp2
         go_roundg k2
         case measure=>exact Nat.lt_succ_self k2
         case rel=>exact ⟨k+1,(by first|rfl|(rw [hwp])|(simp [hwp];done)),⟨(Nat.add_right_comm k 1 k2).trans HI2.out⟩,⟨by rw [htake.out];exact HOn.out⟩,⟨HBn.out⟩,⟨BKc.out⟩⟩
      · have d0:=dec_ge hlt2
        rw [List.take_of_length_le (Nat.le_of_not_lt hlt2)] at hacc2
        have HA2:=mk0 hacc2.symm
        clear hacc2
        obtain ⟨s0_,s1_,s2_,s3_⟩:=cz4 BK.out
        obtain ⟨wq,hwq_⟩:∃ q:World,q=wr:=⟨_,rfl⟩
        subst hwq_
        go_wp2
        have HBr:=HBi
        have HOc:=mk0 (Kd.jk8 HRo.out HBr.out)
        have HCv:=mk0 (Kd.jj7 HV.out).2.2
        have HLv:=mk0 (Kd.jj7 HV.out).2.1
        clear HV HBi s0_ s1_ s2_ s3_
        have hwp1:=num_step i l.length hlt HLL.out
        replace HBr:=mk0 (jj2 HBr.out)
        replace BK:=mk0 (jjq BK.out)
        replace HOc:=mk0 (Kd.R_drew HOc.out)
        replace HCv:=mk0 (Kd.C_drew HCv.out)
        refine start_ (n:=16) (S:=fun w'=>w'.cell? ⟨gb,0,none⟩=some (.string x.f0)∧w'.cell? ⟨gb,2,none⟩=some (.slice A2 x.f2.length c2)∧w'.cell? ⟨gb,3,none⟩=some (.slice A3 x.f3.length c3)) (ds:=[]) (bzs 16 0) (by kernel_rfl) rfl rfl ⟨bzC BK 0,bzC BK 2,bzC BK 3⟩ (fun hHeld=>?_)
        refine with_tabW enums_t.tab11 enums_t.bits11 (fun HT_ HW_=>?_)
        generalize wq.drew=wq at HBr BK HOc HCv hHeld ⊢
        refine pzS 0 (some 41) (bzs 16 1) HT_ ?_
        refine pzS 1 (some 42) (bzs 16 3) HT_ ?_
        refine pzS 2 (some 43) (bzs 16 7) HT_ ?_
        refine pzS 5 (some 46) (bzs 16 39) HT_ ?_
        refine pzS 6 (some 47) (bzs 16 103) HT_ ?_
        refine pzS 9 (some 50) (bzs 16 615) HT_ ?_
        refine tzS 3 (some 44) (bzs 16 623) HT_ HW_ hHeld ?_
        refine tzS 7 (some 48) (bzs 16 751) HT_ HW_ hHeld ?_
        refine tzS 10 (some 51) (bzs 16 1775) HT_ HW_ hHeld ?_
        refine one_ (i:=4) (N:=some 45) (bzs 16 1791) rfl rfl (jk2 HT_.out (by kernel_rfl)) (by decide) (fun K hK=>?_)
        refine gzO Try.func24 #[.int .i64 1,.string x.f0] ?_
        refine (text_c 1 x.f0 _ (by decide) HZ0.out).mono ?_
        rintro e wq ⟨v_,rfl,ho,hb⟩
        refine ⟨_,rfl,?_⟩
        replace HBr:=mk0 (jj1 HBr.out HBr.out.size hb)
        replace BK:=mk0 (jj3 BK.out hb)
        replace HOc:=mk0 (Kd.jk8 HOc.out hb)
        replace HCv:=mk0 (Kd.jj0 HCv.out hb)
        obtain ⟨R45,r45,ex_⟩:=Kd.jk4 ho
        subst ex_
        have HC45:=mk0 (Kd.jj7 ho).2.2
        have HL45:=mk0 (Kd.jj7 ho).2.1
        clear ho hb
        refine hK.out _ _ ⟨bzC BK 0,bzC BK 2,bzC BK 3⟩ (fun hHeld=>?_)
        clear hK K
        refine nzS (some 45) ?_
        refine one_ (i:=8) (N:=some 49) (bzs 16 2047) rfl rfl (jk2 HT_.out (by kernel_rfl)) (by decide) (fun K hK=>?_)
        refine gzO Try.func30 #[.int .i64 3,.slice A2 x.f2.length c2] ?_
        refine (bytes_c 3 x.f2 A2 c2 _ (by decide) HZ2.out U2.out (Kd.jj0 g2 HBr.out)).mono ?_
        rintro e wq ⟨v_,rfl,ho,hb⟩
        refine ⟨_,rfl,?_⟩
        replace HBr:=mk0 (jj1 HBr.out HBr.out.size hb)
        replace BK:=mk0 (jj3 BK.out hb)
        replace HOc:=mk0 (Kd.jk8 HOc.out hb)
        replace HCv:=mk0 (Kd.jj0 HCv.out hb)
        replace HC45:=mk0 (Kd.jj0 HC45.out hb)
        obtain ⟨R49,r49,ex_⟩:=Kd.jk4 ho
        subst ex_
        have HC49:=mk0 (Kd.jj7 ho).2.2
        have HL49:=mk0 (Kd.jj7 ho).2.1
        clear ho hb
        refine hK.out _ _ ⟨bzC BK 0,bzC BK 2,bzC BK 3⟩ (fun hHeld=>?_)
        clear hK K
        refine nzS (some 49) ?_
        refine one_ (i:=11) (N:=some 52) (bzs 16 4095) rfl rfl (jk2 HT_.out (by kernel_rfl)) (by decide) (fun K hK=>?_)
        obtain ⟨ys,hys⟩:∃ y_:List (List Int),y_=[tS 1 x.f0,acc2,oB 3 x.f2,x.f3]:=⟨_,rfl⟩
        refine Kd.N_lit_step (Kd.slice 5 (Kd.int .u8)) (w0:=wq) wq.heap.size 28 ?hg (N':=52) ?hd (xs:=([tS 1 x.f0,acc2,oB 3 x.f2,x.f3]:List (List Int))) (inner:=[.slice R45 (tS 1 x.f0).length r45,.slice Av2 (acc2).length cv2,.slice R49 (oB 3 x.f2).length r49,.slice A3 (x.f3).length c3]) (ok:=fun _=>True) (okp:=fun k_=>k_ < wq.heap.size) ?hr ?hp (fun _ _=>trivial) trivial (Below.refl _ _) (Nat.le_refl _) (by simp) ?_
        (case hd=>rfl)
        (case hg=>rfl)
        (case hr=>first|(go_simp;done)|(go_simp;rfl))
        (case hp=>exact Reps.one (fk_ HC45.out HL45.out) (Reps.one (fk_ HCv.out HLv.out) (Reps.one (fk_ HC49.out HL49.out) (Reps.one (fk_ (Kd.jj0 g3 HBr.out) l3) (Reps.none _ _)))))
        intro v_ wq hn hb hg_ hnew_
        clear hg_ hnew_
        rw [← hys] at hn
        replace HBr:=mk0 (jj1 HBr.out HBr.out.size hb)
        replace BK:=mk0 (jj3 BK.out hb)
        replace HOc:=mk0 (Kd.jk8 HOc.out hb)
        replace HCv:=mk0 (Kd.jj0 HCv.out hb)
        replace HC45:=mk0 (Kd.jj0 HC45.out hb)
        replace HC49:=mk0 (Kd.jj0 HC49.out hb)
        obtain ⟨Rz,rz,ex_⟩:=Kd.N_slice hn
        subst ex_
        have HCz:=mk0 (Kd.N_reads' hn).2.2
        clear hn hb
        have HF:=mk0 (show ys.flatten=bEnum x from by rw [hys];rw [HA2.out];simp [bEnum])
        have HY:=mk0 (show ys.length < 1000000 from by rw [hys];simp)
        clear hys
        refine hK.out _ _ ⟨bzC BK 0,bzC BK 2,bzC BK 3⟩ (fun hHeld=>?_)
        clear hK K
        refine nzS (some 52) ?_
        refine one_ (i:=12) (N:=some 53) (bzs 16 8191) rfl rfl (jk2 HT_.out (by kernel_rfl)) (by decide) (fun K hK=>?_)
        refine gzO Try.func23 #[.slice Rz ys.length rz] ?_
        refine (all_c ys Rz rz _ HCz.out (by rw [HF.out];have:=HZ.out;omega) HY.out).mono ?_
        rintro e wq ⟨v_,rfl,ho,hb⟩
        refine ⟨_,rfl,?_⟩
        replace HBr:=mk0 (jj1 HBr.out HBr.out.size hb)
        replace BK:=mk0 (jj3 BK.out hb)
        replace HOc:=mk0 (Kd.jk8 HOc.out hb)
        replace HCv:=mk0 (Kd.jj0 HCv.out hb)
        replace HC45:=mk0 (Kd.jj0 HC45.out hb)
        replace HC49:=mk0 (Kd.jj0 HC49.out hb)
        replace HCz:=mk0 (Kd.jj0 HCz.out hb)
        rw [HF.out] at ho
        obtain ⟨R53,r53,ex_⟩:=Kd.jk4 ho
        subst ex_
        have HC53:=mk0 (Kd.jj7 ho).2.2
        have HL53:=mk0 (Kd.jj7 ho).2.1
        clear ho hb
        refine hK.out _ _ ⟨bzC BK 0,bzC BK 2,bzC BK 3⟩ (fun hHeld=>?_)
        clear hK K
        refine nzS (some 53) ?_
        refine one_ (i:=13) (N:=some 54) (bzs 16 16383) rfl rfl (jk2 HT_.out (by kernel_rfl)) (by decide) (fun K hK=>?_)
        refine gzO Try.func51 #[.int .i64 num,.slice R53 (bEnum x).length r53] ?_
        refine (part_c num (bEnum x) R53 r53 _ HN.out HZ.out HC53.out HL53.out).mono ?_
        rintro e wq ⟨v_,rfl,ho,hb⟩
        refine ⟨_,rfl,?_⟩
        replace HBr:=mk0 (jj1 HBr.out HBr.out.size hb)
        replace BK:=mk0 (jj3 BK.out hb)
        replace HOc:=mk0 (Kd.jk8 HOc.out hb)
        replace HCv:=mk0 (Kd.jj0 HCv.out hb)
        replace HC45:=mk0 (Kd.jj0 HC45.out hb)
        replace HC49:=mk0 (Kd.jj0 HC49.out hb)
        replace HCz:=mk0 (Kd.jj0 HCz.out hb)
        replace HC53:=mk0 (Kd.jj0 HC53.out hb)
        obtain ⟨R54,r54,ex_⟩:=Kd.jk4 ho
        subst ex_
        have HC54:=mk0 (Kd.jj7 ho).2.2
        have HL54:=mk0 (Kd.jj7 ho).2.1
        clear ho hb
        refine hK.out _ _ ⟨bzC BK 0,bzC BK 2,bzC BK 3⟩ (fun hHeld=>?_)
        clear hK K
        refine nzS (some 54) ?_
        refine one_ (i:=14) (N:=some 55) (bzs 16 32767) rfl rfl (jk2 HT_.out (by kernel_rfl)) (by decide) (fun K hK=>?_)
        refine Kd.R_append_rows_step (Kd.int .u8) (w0:=w) w.heap.size (by rfl) (.tmp 41) (.tmp 54) 28 5 (.int .u8 0) 1 rfl Try.underlying28 GUndescBack.info5 rfl (by decide) (by omega) (.slice Av acc.length cv) acc (fB num (bEnum x)) _ _ _ (fun _=>True) (fun _=>False) rfl rfl HOc.out HC54.out (fun _ _ h=>h) (fun _ h=>h.elim) (fun _ _=>trivial) (jj1 HBo.out HBo.out.size HBr.out) (jj1 HBo.out HBo.out.size HBr.out).size (by have:=HLo.out;omega) ?_
        intro v1 wq ho hb hg hat
        have HOn:=mk0 ho
        have HBn:=mk0 hb
        have n_:=mk0 (blk_grown BK.out hg (Kd.R_ne HOc.out BK.out (by decide)))
        clear BK
        have BK:=n_
        clear n_
        clear ho hb hg hat
        clear HBr
        clear HOc
        clear HCv
        clear HC45
        clear HC49
        clear HCz
        clear HC53
        clear HC54
        refine hK.out _ _ ⟨bzC BK 0,bzC BK 2,bzC BK 3⟩ (fun hHeld=>?_)
        clear hK K
        refine nzS (some 55) ?_
        refine pzS 15 (some 5) (bzs 16 65535) HT_ ?_
        refine done_ (done_of HT_.out (by kernel_rfl)) ?_
        go_wp2
        go_roundg k1
        case measure=>exact Nat.lt_succ_self k1
        case rel=>exact ⟨i+1,(by first|rfl|(rw [hwp1])|(simp [hwp1];done)),⟨(Nat.add_right_comm i 1 k1).trans HI.out⟩,⟨by rw [HTo.out];exact HOn.out⟩,⟨HBn.out⟩⟩
  · have d0:=dec_ge hlt
    rw [List.take_of_length_le (Nat.le_of_not_lt hlt)] at hacc
    have HE:=mk0 hacc
    clear hacc
    go_wp2
    go_ret
    exact ⟨_,rfl,by rw [HE.out];exact HO.out,HB.out⟩
end Go.Proofs.Ytheoafenehckbaa.R1
