/- The reference's lists of services. -/
import Derived.Test.YtheoafenehckbaaQR4
import Derived.Test.YtheoafenehckbaaQSh
import Derived.LoopN
import Derived.RegionTactic
namespace Go.Proofs.Ytheoafenehckbaa.R1
open Go.RowKit GUndescBack YtheoafenehckbaaW.PrintWords YtheoafenehckbaaW.PrintLast YtheoafenehckbaaW.PrintMore Vb Wr Wp Rk Sp
set_option linter.unusedVariables false
set_option linter.unusedSimpArgs false
def services_t.T9:Bool × List (List Nat × List Nat):=(true,[([],[]),([],[]),([1],[1]),([2],[2]),([],[]),([4],[4]),([5,3],[5]),([],[]),([7],[7]),([8,6],[8]),([],[]),([10],[10]),([11,9],[11]),([],[]),([13],[13]),([14,12],[14]),([],[]),([16],[16]),([17,15],[17]),([],[]),([19],[19]),([3,6,9,12,15,18,20],[3,6,9,12,15,18,20]),([21,18],[21]),([22,22],[22]),([0,23,23],[0,23]),([24,24,0,1,2,3,4,5,6,7,8,9,10,11,12,13,14,15,16,17,18,19,20,21,22,23,24],[0,24])])
def services_t.B9:List Nat:=[0,0,2,6,0,16,62,0,128,510,0,1024,4094,0,8192,32766,0,65536,262142,0,524288,2097150,4194302,8388606,16777215,33554431]
theorem services_t.tab9:rtab .any (opsOf Try.f28 9)=services_t.T9:=by kernel_rfl
theorem services_t.bits9:waitsOk services_t.T9.2 services_t.B9=true:=by kernel_rfl
def services_t.T11:Bool × List (List Nat × List Nat):=(true,[([],[]),([],[]),([],[]),([2],[2]),([3],[3]),([],[]),([],[]),([6],[6]),([7,4],[7]),([],[]),([9],[9]),([4,5,8,10],[4,5,8,10]),([11,8],[11]),([1,12,12],[1,12]),([0,13,13],[0,13]),([14,14,0,1,2,3,4,5,6,7,8,9,10,11,12,13,14],[0,14])])
def services_t.B11:List Nat:=[0,0,0,4,12,0,0,64,220,0,512,2044,4092,8190,16383,32767]
theorem services_t.tab11:rtab .any (opsOf Try.f28 11)=services_t.T11:=by kernel_rfl
theorem services_t.bits11:waitsOk services_t.T11.2 services_t.B11=true:=by kernel_rfl
set_option maxHeartbeats 8000000 in
set_option maxRecDepth 100000 in
theorem services_c (l:List S51) (hg:∀ y∈l,good51 y) (hb:(l.map bk51).sum≤4294967296) (num:Int) (hn:1≤num∧num≤536870911) (A0:Option Addr) (c0:Nat) (w:World) (hC:Kd.C k51 w A0 l.length l) :
 Calls Try.prog 28 #[.int .i64 num,.slice A0 l.length c0] w fun e w'=>Ret_ (l.flatMap fun y=>fB num (bService y)) w e w':=by
 have hlen:=flat_len bk51 num bService hn l (fun y hy=>len51_ y (by have:=sum_le bk51 l y hy;omega)) hb
 have hll:=len_sum bk51 (fun y=>by unfold bk51;omega) l
 have HL:Aside0 ((l.flatMap fun y=>fB num (bService y)).length≤1099511627776):=⟨by omega⟩
 have HS:=mk0 hb
 have HN:=mk0 hn
 have HC0:=mk0 hC
 have HB0:=mk0 (Below.refl w.heap.size w)
 replace hll:l.length < 9223372036854775807:=by omega
 clear hlen hb hn
 go_enter Try.func28,Try.ntmps28
 go_wp2
 go_loopg [5,13] l.length (fun kq v5 v13 w'=>∃ i:Nat,v13 = .int .i64 (i:Int)∧Aside0 (i+kq=l.length)∧Aside0 (Kd.R (Kd.int .u8) 5 w' w.heap.size (fun _=>True) v5 ((l.take i).flatMap fun y=>fB num (bService y)))∧Aside0 (Below w.heap.size w w'))
 case atStart=>exact ⟨0,rfl,⟨by omega⟩,⟨Kd.R_nil _ _ _ _ _⟩,⟨HB0.out⟩⟩
 case round=>
  obtain ⟨i,rfl,HI,HO,HB⟩:=hrel
  obtain ⟨acc,hacc⟩:∃ z,((l.take i).flatMap fun y=>fB num (bService y))=z:=⟨_,rfl⟩
  rw [hacc] at HO
  obtain ⟨Av,cv,ev⟩:=Kd.jk4 HO.out
  subst ev
  by_cases hlt:i < l.length
  · have hwp:=num_step i l.length hlt hll
    have d0:=dec_lt hlt
    have p0:(0≤(i:Int))=True:=eq_true (Int.natCast_nonneg i)
    have q0:((i:Int) < (l.length:Int))=True:=eq_true (Int.ofNat_lt.2 hlt)
    obtain ⟨x,hmem,hxe,htake0,hlen0⟩:=flat_step (fun y=>fB num (bService y)) l z51 i hlt
    rw [hacc] at htake0 hlen0
    have htake:=mk0 htake0
    have hlen:Aside0 (acc.length+(fB num (bService x)).length < 140737488355328):=⟨by have:=HL.out;omega⟩
    clear htake0 hlen0 hacc
    have hCw:=Kd.jj0 HC0.out HB.out
    obtain ⟨ad,cc,ea,_,hKx,hcc⟩:=Kd.C_get hCw z51 (i:Int) (Int.natCast_nonneg _) (Int.ofNat_lt.2 hlt)
    rw [Int.toNat_natCast] at hKx hcc
    rw [hxe] at hKx
    obtain ⟨A1,c1,A2,c2,A3,c3,ecc,l1,g1,l2,g2,l3,g3⟩:=k51_open hKx
    subst ecc
    obtain ⟨ex0,ex1,ex2,ex3⟩:=ez4 (m:=i*4) hcc
    subst ea
    clear hcc hKx hxe
    have hbx:bk51 x≤4294967296:=by have:=sum_le bk51 l x hmem;have:=HS.out;omega
    have hgx:=hg x hmem
    have hlx:=len51_ x hbx
    have HZ:Aside0 ((bService x).length≤1099511627776):=⟨by omega⟩
    unfold bk51 at hbx
    rw [sum_one,sum_one] at hbx
    have HZ0:Aside0 (x.f0.size≤1099511627776):=⟨by omega⟩
    have HS1:Aside0 ((x.f1.map bk53).sum≤4294967296):=⟨by omega⟩
    have HG1:Aside0 (∀ y∈x.f1,good53 y):=⟨hgx.2.1.2⟩
    have HZ2:Aside0 (x.f2.length≤1099511627776):=⟨by omega⟩
    have U2:Aside0 (Bytes x.f2):=⟨bytes_of_wf hgx.2.2.1.2⟩
    have HZ3:Aside0 (x.f3.length≤1099511627776):=⟨by omega⟩
    have U3:Aside0 (Bytes x.f3):=⟨bytes_of_wf hgx.2.2.2.2⟩
    clear hlx hbx
    have HLL:=mk0 hll
    clear hll
    cases gk with
    | zero=>exact absurd HI.out (fun h=>Nat.ne_of_lt hlt h)
    | succ k1=>
     go_wp2_with (first|((with_reducible refine jk0 (N:=7) rfl ?_);(try (refine gate_guard (by rfl) ?_;dsimp only));refine bzX 7 #[.string (⟨#[]⟩:ByteArray),.slice none 0 0,.slice none 0 0,.slice none 0 0] 51 ?_;intro gb hg9 w9 hbox hb9;have HB9:=mk0 hb9;have BX9:=mk0 hbox;have HG9:=mk0 hg9;clear hb9 hbox hg9)|((with_reducible refine jjz (t:=51) (p:=7) rfl ?_);refine Sw.store_whole rfl rfl rfl gb 51 _ _ rfl rfl BX9.out (by kernel_rfl) rfl rfl ?_;intro wq hS_ hbS_ hkS_;have HBr:=mk0 (hbS_ wr.heap.size wr (Nat.le_of_eq HG9.out.symm) HB9.out);have BK:=mk0 hS_;clear hS_ hbS_ hkS_ BX9 HB9 HG9;obtain ⟨s0_,s1_,s2_,s3_⟩:=cz4 BK.out))
     obtain ⟨wo,hwo_⟩:∃ q:World,q=wr:=⟨_,rfl⟩
     subst hwo_
     have HBo:=HB
     have HRo:=HO
     have BKo:=BK
     have HLo:=hlen
     have HTo:=htake
     clear HB HO BK hlen htake hwp d0 p0 q0
     have hl2:x.f1.length < 9223372036854775807:=by have h1:=len_sum bk53 (fun y=>by unfold bk53;omega) x.f1;have:=HS1.out;omega
     have HL2:Aside0 ((x.f1.flatMap fun y=>fB 2 (bMethod y)).length≤1099511627776):=⟨by have h1:=flat_len bk53 2 bMethod (by decide) x.f1 (fun y hy=>len53_ y (by have:=sum_le bk53 x.f1 y hy;have:=HS1.out;omega)) HS1.out;have:=HS1.out;omega⟩
     have HL2b:=mk0 hl2
     clear hl2
     go_loopg [8,20] x.f1.length (fun kq v8 v20 w'=>∃ k:Nat,v20 = .int .i64 (k:Int)∧Aside0 (k+kq=x.f1.length)∧Aside0 (Kd.R (Kd.int .u8) 5 w' wo.heap.size (fun _=>True) v8 ((x.f1.take k).flatMap fun y=>fB 2 (bMethod y)))∧Aside0 (Below wo.heap.size wo w')∧Aside0 (w'.heap[gb]?=some (.cells #[.string x.f0,.slice A1 x.f1.length c1,.slice A2 x.f2.length c2,.slice A3 x.f3.length c3] 51 (0,0))))
     case atStart=>exact ⟨0,rfl,⟨by omega⟩,⟨Kd.R_nil _ _ _ _ _⟩,⟨HBr.out⟩,⟨BKo.out⟩⟩
     case round=>
      clear HBr BKo s0_ s1_ s2_ s3_
      obtain ⟨k,rfl,HI2,HV,HBi,BK⟩:=hrel
      obtain ⟨acc2,hacc2⟩:∃ z,((x.f1.take k).flatMap fun y=>fB 2 (bMethod y))=z:=⟨_,rfl⟩
      rw [hacc2] at HV
      obtain ⟨Av2,cv2,ev2⟩:=Kd.jk4 HV.out
      subst ev2
      by_cases hlt2:k < x.f1.length
      · have hwp:=num_step k x.f1.length hlt2 HL2b.out
        have d0:=dec_lt hlt2
        have p0:(0≤(k:Int))=True:=eq_true (Int.natCast_nonneg k)
        have q0:((k:Int) < (x.f1.length:Int))=True:=eq_true (Int.ofNat_lt.2 hlt2)
        obtain ⟨y,hmem2,hxe,htake0,hlen0⟩:=flat_step (fun y=>fB 2 (bMethod y)) x.f1 z53 k hlt2
        rw [hacc2] at htake0 hlen0
        have htake:=mk0 htake0
        have hlen:Aside0 (acc2.length+(fB 2 (bMethod y)).length < 140737488355328):=⟨by have:=HL2.out;omega⟩
        clear htake0 hlen0 hacc2
        have hC2:=Kd.jj0 g1 HBi.out
        have hby:bk53 y≤4294967296:=by have:=sum_le bk53 x.f1 y hmem2;have:=HS1.out;omega
        have hgy:=HG1.out y hmem2
        obtain ⟨bd,cc,ea,_,hKx,hcc⟩:=Kd.C_get hC2 z53 (k:Int) (Int.natCast_nonneg _) (Int.ofNat_lt.2 hlt2)
        rw [Int.toNat_natCast] at hKx hcc
        rw [hxe] at hKx
        obtain ⟨B5,d5,B6,d6,ecc,m5,h5,m6,h6⟩:=k53_open hKx
        subst ecc
        obtain ⟨ey0,ey1,ey2,ey3,ey4,ey5,ey6⟩:=ez7 (m:=k*7) hcc
        subst ea
        clear hcc hKx hxe
        have hlx:=len53_ y hby
        have YZ:Aside0 ((bMethod y).length≤1099511627776):=⟨by omega⟩
        unfold bk53 at hby
        rw [sum_one,sum_one] at hby
        have YZ0:Aside0 (y.f0.size≤1099511627776):=⟨by omega⟩
        have YZ1:Aside0 (y.f1.size≤1099511627776):=⟨by omega⟩
        have YZ2:Aside0 (y.f2.size≤1099511627776):=⟨by omega⟩
        have YZ5:Aside0 (y.f5.length≤1099511627776):=⟨by omega⟩
        have YU5:Aside0 (Bytes y.f5):=⟨bytes_of_wf hgy.2.2.2.2.2.1.2⟩
        have YZ6:Aside0 (y.f6.length≤1099511627776):=⟨by omega⟩
        have YU6:Aside0 (Bytes y.f6):=⟨bytes_of_wf hgy.2.2.2.2.2.2.2⟩
        clear hlx hby
        cases gk with
        | zero=>exact absurd HI2.out (fun h=>Nat.ne_of_lt hlt2 h)
        | succ k2=>
         go_wp2_with (first|((with_reducible refine jk0 (N:=10) rfl ?_);(try (refine gate_guard (by rfl) ?_;dsimp only));refine bzX 10 #[.string (⟨#[]⟩:ByteArray),.string (⟨#[]⟩:ByteArray),.string (⟨#[]⟩:ByteArray),.bool false,.bool false,.slice none 0 0,.slice none 0 0] 53 ?_;intro gc hg9 w9 hbox hb9;have HB9:=mk0 hb9;have BX9:=mk0 hbox;have HG9:=mk0 hg9;clear hb9 hbox hg9)|((with_reducible refine jjz (t:=53) (p:=10) rfl ?_);refine Sw.store_whole rfl rfl rfl gc 53 _ _ rfl rfl BX9.out (by kernel_rfl) rfl rfl ?_;intro wq hS_ hbS_ hkS_;have HBr:=mk0 (hbS_ wr.heap.size wr (Nat.le_of_eq HG9.out.symm) HB9.out);have BC:=mk0 hS_;clear hS_ hbS_ hkS_ BX9 HB9 HG9;obtain ⟨s0_,s1_,s2_,s3_,s4_,s5_,s6_⟩:=cz7 BC.out))
         have HVc:=mk0 (Kd.jk8 HV.out HBr.out)
         have BKc:=mk0 (jj3 BK.out HBr.out)
         replace HBr:=mk0 (jj2 HBr.out)
         replace BC:=mk0 (jjq BC.out)
         replace BKc:=mk0 (jjq BKc.out)
         replace HVc:=mk0 (Kd.R_drew HVc.out)
         refine start_ (n:=26) (S:=fun w'=>w'.cell? ⟨gc,0,none⟩=some (.string y.f0)∧w'.cell? ⟨gc,1,none⟩=some (.string y.f1)∧w'.cell? ⟨gc,2,none⟩=some (.string y.f2)∧w'.cell? ⟨gc,3,none⟩=some (.bool y.f3)∧w'.cell? ⟨gc,4,none⟩=some (.bool y.f4)∧w'.cell? ⟨gc,5,none⟩=some (.slice B5 y.f5.length d5)∧w'.cell? ⟨gc,6,none⟩=some (.slice B6 y.f6.length d6)) (ds:=[]) (bzs 26 0) (by kernel_rfl) rfl rfl (cz7 BC.out) (fun hHeld=>?_)
         refine with_tabW services_t.tab9 services_t.bits9 (fun HT_ HW_=>?_)
         generalize wq.drew=wq at HBr BC BKc HVc hHeld ⊢
         refine pzS 0 (some 24) (bzs 26 1) HT_ ?_
         refine pzS 1 (some 25) (bzs 26 3) HT_ ?_
         refine pzS 4 (some 28) (bzs 26 19) HT_ ?_
         refine pzS 7 (some 31) (bzs 26 147) HT_ ?_
         refine pzS 10 (some 34) (bzs 26 1171) HT_ ?_
         refine pzS 13 (some 37) (bzs 26 9363) HT_ ?_
         refine pzS 16 (some 40) (bzs 26 74899) HT_ ?_
         refine pzS 19 (some 43) (bzs 26 599187) HT_ ?_
         refine tzS 2 (some 26) (bzs 26 599191) HT_ HW_ hHeld ?_
         refine tzS 5 (some 29) (bzs 26 599223) HT_ HW_ hHeld ?_
         refine tzS 8 (some 32) (bzs 26 599479) HT_ HW_ hHeld ?_
         refine tzS 11 (some 35) (bzs 26 601527) HT_ HW_ hHeld ?_
         refine tzS 14 (some 38) (bzs 26 617911) HT_ HW_ hHeld ?_
         refine tzS 17 (some 41) (bzs 26 748983) HT_ HW_ hHeld ?_
         refine tzS 20 (some 44) (bzs 26 1797559) HT_ HW_ hHeld ?_
         refine one_ (i:=3) (N:=some 27) (bzs 26 1797567) rfl rfl (jk2 HT_.out (by kernel_rfl)) (by decide) (fun K hK=>?_)
         refine gzO Try.func24 #[.int .i64 1,.string y.f0] ?_
         refine (text_c 1 y.f0 _ (by decide) YZ0.out).mono ?_
         rintro e wq ⟨v_,rfl,ho,hb⟩
         refine ⟨_,rfl,?_⟩
         replace HBr:=mk0 (jj1 HBr.out HBr.out.size hb)
         replace BC:=mk0 (jj3 BC.out hb)
         replace BKc:=mk0 (jj3 BKc.out hb)
         replace HVc:=mk0 (Kd.jk8 HVc.out hb)
         obtain ⟨R27,r27,ex_⟩:=Kd.jk4 ho
         subst ex_
         have HC27:=mk0 (Kd.jj7 ho).2.2
         have HL27:=mk0 (Kd.jj7 ho).2.1
         clear ho hb
         refine hK.out _ _ (cz7 BC.out) (fun hHeld=>?_)
         clear hK K
         refine nzS (some 27) ?_
         refine one_ (i:=6) (N:=some 30) (bzs 26 1797631) rfl rfl (jk2 HT_.out (by kernel_rfl)) (by decide) (fun K hK=>?_)
         refine gzO Try.func24 #[.int .i64 2,.string y.f1] ?_
         refine (text_c 2 y.f1 _ (by decide) YZ1.out).mono ?_
         rintro e wq ⟨v_,rfl,ho,hb⟩
         refine ⟨_,rfl,?_⟩
         replace HBr:=mk0 (jj1 HBr.out HBr.out.size hb)
         replace BC:=mk0 (jj3 BC.out hb)
         replace BKc:=mk0 (jj3 BKc.out hb)
         replace HVc:=mk0 (Kd.jk8 HVc.out hb)
         replace HC27:=mk0 (Kd.jj0 HC27.out hb)
         obtain ⟨R30,r30,ex_⟩:=Kd.jk4 ho
         subst ex_
         have HC30:=mk0 (Kd.jj7 ho).2.2
         have HL30:=mk0 (Kd.jj7 ho).2.1
         clear ho hb
         refine hK.out _ _ (cz7 BC.out) (fun hHeld=>?_)
         clear hK K
         refine nzS (some 30) ?_
         refine one_ (i:=9) (N:=some 33) (bzs 26 1798143) rfl rfl (jk2 HT_.out (by kernel_rfl)) (by decide) (fun K hK=>?_)
         refine gzO Try.func24 #[.int .i64 3,.string y.f2] ?_
         refine (text_c 3 y.f2 _ (by decide) YZ2.out).mono ?_
         rintro e wq ⟨v_,rfl,ho,hb⟩
         refine ⟨_,rfl,?_⟩
         replace HBr:=mk0 (jj1 HBr.out HBr.out.size hb)
         replace BC:=mk0 (jj3 BC.out hb)
         replace BKc:=mk0 (jj3 BKc.out hb)
         replace HVc:=mk0 (Kd.jk8 HVc.out hb)
         replace HC27:=mk0 (Kd.jj0 HC27.out hb)
         replace HC30:=mk0 (Kd.jj0 HC30.out hb)
         obtain ⟨R33,r33,ex_⟩:=Kd.jk4 ho
         subst ex_
         have HC33:=mk0 (Kd.jj7 ho).2.2
         have HL33:=mk0 (Kd.jj7 ho).2.1
         clear ho hb
         refine hK.out _ _ (cz7 BC.out) (fun hHeld=>?_)
         clear hK K
         refine nzS (some 33) ?_
         refine one_ (i:=12) (N:=some 36) (bzs 26 1802239) rfl rfl (jk2 HT_.out (by kernel_rfl)) (by decide) (fun K hK=>?_)
         refine gzO Try.func30 #[.int .i64 4,.slice B5 y.f5.length d5] ?_
         refine (bytes_c 4 y.f5 B5 d5 _ (by decide) YZ5.out YU5.out (Kd.jj0 h5 HBr.out)).mono ?_
         rintro e wq ⟨v_,rfl,ho,hb⟩
         refine ⟨_,rfl,?_⟩
         replace HBr:=mk0 (jj1 HBr.out HBr.out.size hb)
         replace BC:=mk0 (jj3 BC.out hb)
         replace BKc:=mk0 (jj3 BKc.out hb)
         replace HVc:=mk0 (Kd.jk8 HVc.out hb)
         replace HC27:=mk0 (Kd.jj0 HC27.out hb)
         replace HC30:=mk0 (Kd.jj0 HC30.out hb)
         replace HC33:=mk0 (Kd.jj0 HC33.out hb)
         obtain ⟨R36,r36,ex_⟩:=Kd.jk4 ho
         subst ex_
         have HC36:=mk0 (Kd.jj7 ho).2.2
         have HL36:=mk0 (Kd.jj7 ho).2.1
         clear ho hb
         refine hK.out _ _ (cz7 BC.out) (fun hHeld=>?_)
         clear hK K
         refine nzS (some 36) ?_
         refine one_ (i:=15) (N:=some 39) (bzs 26 1835007) rfl rfl (jk2 HT_.out (by kernel_rfl)) (by decide) (fun K hK=>?_)
         refine gzO Try.func53 #[.int .i64 5,.bool y.f3] ?_
         refine (truth_c 5 y.f3 _ (by decide)).mono ?_
         rintro e wq ⟨v_,rfl,ho,hb⟩
         refine ⟨_,rfl,?_⟩
         replace HBr:=mk0 (jj1 HBr.out HBr.out.size hb)
         replace BC:=mk0 (jj3 BC.out hb)
         replace BKc:=mk0 (jj3 BKc.out hb)
         replace HVc:=mk0 (Kd.jk8 HVc.out hb)
         replace HC27:=mk0 (Kd.jj0 HC27.out hb)
         replace HC30:=mk0 (Kd.jj0 HC30.out hb)
         replace HC33:=mk0 (Kd.jj0 HC33.out hb)
         replace HC36:=mk0 (Kd.jj0 HC36.out hb)
         obtain ⟨R39,r39,ex_⟩:=Kd.jk4 ho
         subst ex_
         have HC39:=mk0 (Kd.jj7 ho).2.2
         have HL39:=mk0 (Kd.jj7 ho).2.1
         clear ho hb
         refine hK.out _ _ (cz7 BC.out) (fun hHeld=>?_)
         clear hK K
         refine nzS (some 39) ?_
         refine one_ (i:=18) (N:=some 42) (bzs 26 2097151) rfl rfl (jk2 HT_.out (by kernel_rfl)) (by decide) (fun K hK=>?_)
         refine gzO Try.func53 #[.int .i64 6,.bool y.f4] ?_
         refine (truth_c 6 y.f4 _ (by decide)).mono ?_
         rintro e wq ⟨v_,rfl,ho,hb⟩
         refine ⟨_,rfl,?_⟩
         replace HBr:=mk0 (jj1 HBr.out HBr.out.size hb)
         replace BC:=mk0 (jj3 BC.out hb)
         replace BKc:=mk0 (jj3 BKc.out hb)
         replace HVc:=mk0 (Kd.jk8 HVc.out hb)
         replace HC27:=mk0 (Kd.jj0 HC27.out hb)
         replace HC30:=mk0 (Kd.jj0 HC30.out hb)
         replace HC33:=mk0 (Kd.jj0 HC33.out hb)
         replace HC36:=mk0 (Kd.jj0 HC36.out hb)
         replace HC39:=mk0 (Kd.jj0 HC39.out hb)
         obtain ⟨R42,r42,ex_⟩:=Kd.jk4 ho
         subst ex_
         have HC42:=mk0 (Kd.jj7 ho).2.2
         have HL42:=mk0 (Kd.jj7 ho).2.1
         clear ho hb
         refine hK.out _ _ (cz7 BC.out) (fun hHeld=>?_)
         clear hK K
         refine nzS (some 42) ?_
         refine one_ (i:=21) (N:=some 45) (bzs 26 4194303) rfl rfl (jk2 HT_.out (by kernel_rfl)) (by decide) (fun K hK=>?_)
         obtain ⟨ys,hys⟩:∃ y_:List (List Int),y_=[tS 1 y.f0,tS 2 y.f1,tS 3 y.f2,oB 4 y.f5,tB 5 y.f3,tB 6 y.f4,y.f6]:=⟨_,rfl⟩
         refine Kd.N_lit_step (Kd.slice 5 (Kd.int .u8)) (w0:=wq) wq.heap.size 28 ?hg (N':=45) ?hd (xs:=([tS 1 y.f0,tS 2 y.f1,tS 3 y.f2,oB 4 y.f5,tB 5 y.f3,tB 6 y.f4,y.f6]:List (List Int))) (inner:=[.slice R27 (tS 1 y.f0).length r27,.slice R30 (tS 2 y.f1).length r30,.slice R33 (tS 3 y.f2).length r33,.slice R36 (oB 4 y.f5).length r36,.slice R39 (tB 5 y.f3).length r39,.slice R42 (tB 6 y.f4).length r42,.slice B6 (y.f6).length d6]) (ok:=fun _=>True) (okp:=fun k_=>k_ < wq.heap.size) ?hr ?hp (fun _ _=>trivial) trivial (Below.refl _ _) (Nat.le_refl _) (by simp) ?_
         (case hd=>rfl)
         (case hg=>rfl)
         (case hr=>first|(go_simp;done)|(go_simp;rfl))
         (case hp=>exact Reps.one (fk_ HC27.out HL27.out) (Reps.one (fk_ HC30.out HL30.out) (Reps.one (fk_ HC33.out HL33.out) (Reps.one (fk_ HC36.out HL36.out) (Reps.one (fk_ HC39.out HL39.out) (Reps.one (fk_ HC42.out HL42.out) (Reps.one (fk_ (Kd.jj0 h6 HBr.out) m6) (Reps.none _ _))))))))
         intro v_ wq hn hb hg_ hnew_
         clear hg_ hnew_
         rw [← hys] at hn
         replace HBr:=mk0 (jj1 HBr.out HBr.out.size hb)
         replace BC:=mk0 (jj3 BC.out hb)
         replace BKc:=mk0 (jj3 BKc.out hb)
         replace HVc:=mk0 (Kd.jk8 HVc.out hb)
         replace HC27:=mk0 (Kd.jj0 HC27.out hb)
         replace HC30:=mk0 (Kd.jj0 HC30.out hb)
         replace HC33:=mk0 (Kd.jj0 HC33.out hb)
         replace HC36:=mk0 (Kd.jj0 HC36.out hb)
         replace HC39:=mk0 (Kd.jj0 HC39.out hb)
         replace HC42:=mk0 (Kd.jj0 HC42.out hb)
         obtain ⟨Rz,rz,ex_⟩:=Kd.N_slice hn
         subst ex_
         have HCz:=mk0 (Kd.N_reads' hn).2.2
         clear hn hb
         have HF:=mk0 (show ys.flatten=bMethod y from by rw [hys];simp [bMethod])
         have HY:=mk0 (show ys.length < 1000000 from by rw [hys];simp)
         clear hys
         refine hK.out _ _ (cz7 BC.out) (fun hHeld=>?_)
         clear hK K
         refine nzS (some 45) ?_
         refine one_ (i:=22) (N:=some 46) (bzs 26 8388607) rfl rfl (jk2 HT_.out (by kernel_rfl)) (by decide) (fun K hK=>?_)
         refine gzO Try.func23 #[.slice Rz ys.length rz] ?_
         refine (all_c ys Rz rz _ HCz.out (by rw [HF.out];have:=YZ.out;omega) HY.out).mono ?_
         rintro e wq ⟨v_,rfl,ho,hb⟩
         refine ⟨_,rfl,?_⟩
         have n0_:=mk0 (jj1 HBr.out HBr.out.size hb)
         have n1_:=mk0 (jj3 BC.out hb)
         have n2_:=mk0 (jj3 BKc.out hb)
         have n3_:=mk0 (Kd.jk8 HVc.out hb)
         have n4_:=mk0 (Kd.jj0 HC27.out hb)
         have n5_:=mk0 (Kd.jj0 HC30.out hb)
         have n6_:=mk0 (Kd.jj0 HC33.out hb)
         have n7_:=mk0 (Kd.jj0 HC36.out hb)
         have n8_:=mk0 (Kd.jj0 HC39.out hb)
         have n9_:=mk0 (Kd.jj0 HC42.out hb)
         have n10_:=mk0 (Kd.jj0 HCz.out hb)
         clear HBr BC BKc HVc HC27 HC30 HC33 HC36 HC39 HC42 HCz
         have HBr:=n0_
         have BC:=n1_
         have BKc:=n2_
         have HVc:=n3_
         have HC27:=n4_
         have HC30:=n5_
         have HC33:=n6_
         have HC36:=n7_
         have HC39:=n8_
         have HC42:=n9_
         have HCz:=n10_
         clear n0_ n1_ n2_ n3_ n4_ n5_ n6_ n7_ n8_ n9_ n10_
         rw [HF.out] at ho
         obtain ⟨R46,r46,ex_⟩:=Kd.jk4 ho
         subst ex_
         have HC46:=mk0 (Kd.jj7 ho).2.2
         have HL46:=mk0 (Kd.jj7 ho).2.1
         clear ho hb
         refine hK.out _ _ (cz7 BC.out) (fun hHeld=>?_)
         clear hK K
         refine nzS (some 46) ?_
         refine one_ (i:=23) (N:=some 47) (bzs 26 16777215) rfl rfl (jk2 HT_.out (by kernel_rfl)) (by decide) (fun K hK=>?_)
         refine gzO Try.func51 #[.int .i64 2,.slice R46 (bMethod y).length r46] ?_
         refine (part_c 2 (bMethod y) R46 r46 _ (by decide) YZ.out HC46.out HL46.out).mono ?_
         rintro e wq ⟨v_,rfl,ho,hb⟩
         refine ⟨_,rfl,?_⟩
         have n0_:=mk0 (jj1 HBr.out HBr.out.size hb)
         have n1_:=mk0 (jj3 BC.out hb)
         have n2_:=mk0 (jj3 BKc.out hb)
         have n3_:=mk0 (Kd.jk8 HVc.out hb)
         have n4_:=mk0 (Kd.jj0 HC27.out hb)
         have n5_:=mk0 (Kd.jj0 HC30.out hb)
         have n6_:=mk0 (Kd.jj0 HC33.out hb)
         have n7_:=mk0 (Kd.jj0 HC36.out hb)
         have n8_:=mk0 (Kd.jj0 HC39.out hb)
         have n9_:=mk0 (Kd.jj0 HC42.out hb)
         have n10_:=mk0 (Kd.jj0 HCz.out hb)
         have n11_:=mk0 (Kd.jj0 HC46.out hb)
         clear HBr BC BKc HVc HC27 HC30 HC33 HC36 HC39 HC42 HCz HC46
         have HBr:=n0_
         have BC:=n1_
         have BKc:=n2_
         have HVc:=n3_
         have HC27:=n4_
         have HC30:=n5_
         have HC33:=n6_
         have HC36:=n7_
         have HC39:=n8_
         have HC42:=n9_
         have HCz:=n10_
         have HC46:=n11_
         clear n0_ n1_ n2_ n3_ n4_ n5_ n6_ n7_ n8_ n9_ n10_ n11_
         obtain ⟨R47,r47,ex_⟩:=Kd.jk4 ho
         subst ex_
         have HC47:=mk0 (Kd.jj7 ho).2.2
         have HL47:=mk0 (Kd.jj7 ho).2.1
         clear ho hb
         refine hK.out _ _ (cz7 BC.out) (fun hHeld=>?_)
         clear hK K
         refine nzS (some 47) ?_
         refine one_ (i:=24) (N:=some 48) (bzs 26 33554431) rfl rfl (jk2 HT_.out (by kernel_rfl)) (by decide) (fun K hK=>?_)
         refine Kd.R_append_rows_step (Kd.int .u8) (w0:=wo) wo.heap.size (by rfl) (.tmp 24) (.tmp 47) 28 5 (.int .u8 0) 1 rfl Try.underlying28 GUndescBack.info5 rfl (by decide) (by omega) (.slice Av2 acc2.length cv2) acc2 (fB 2 (bMethod y)) _ _ _ (fun _=>True) (fun _=>False) rfl rfl HVc.out HC47.out (fun _ _ h=>h) (fun _ h=>h.elim) (fun _ _=>trivial) (jj1 HBi.out HBi.out.size HBr.out) (jj1 HBi.out HBi.out.size HBr.out).size (by have:=hlen.out;omega) ?_
         intro v1 wq ho hb hg hat
         have HOn:=mk0 ho
         have HBn:=mk0 hb
         have n_:=mk0 (blk_grown BC.out hg (Kd.R_ne HVc.out BC.out (by decide)))
         clear BC
         have BC:=n_
         clear n_
         have n_:=mk0 (blk_grown BKc.out hg (Kd.R_ne HVc.out BKc.out (by decide)))
         clear BKc
         have BKc:=n_
         clear n_
         clear ho hb hg hat
         clear HBr
         clear HVc
         clear HC27
         clear HC30
         clear HC33
         clear HC36
         clear HC39
         clear HC42
         clear HCz
         clear HC46
         clear HC47
         refine hK.out _ _ (cz7 BC.out) (fun hHeld=>?_)
         clear hK K
         refine nzS (some 48) ?_
         refine pzS 25 (some 8) (bzs 26 67108863) HT_ ?_
         refine done_ (done_of HT_.out (by kernel_rfl)) ?_
         go_wp2
         go_roundg k2
         case measure=>exact Nat.lt_succ_self k2
         case rel=>exact ⟨k+1,(by first|rfl|(rw [hwp])|(simp [hwp];done)),⟨(Nat.add_right_comm k 1 k2).trans HI2.out⟩,⟨by rw [htake.out];exact HOn.out⟩,⟨HBn.out⟩,⟨BKc.out⟩⟩
      · have d0:=dec_ge hlt2
        rw [List.take_of_length_le (Nat.le_of_not_lt hlt2)] at hacc2
        have HA2:=mk0 hacc2.symm
        clear hacc2
        obtain ⟨s0_,s1_,s2_,s3_⟩:=cz4 BK.out
        obtain ⟨wq,hwq_⟩:∃ q:World,q=wr:=⟨_,rfl⟩
        subst hwq_
        go_wp2
        have HBr:=HBi
        have HOc:=mk0 (Kd.jk8 HRo.out HBr.out)
        have HCv:=mk0 (Kd.jj7 HV.out).2.2
        have HLv:=mk0 (Kd.jj7 HV.out).2.1
        clear HV HBi s0_ s1_ s2_ s3_
        have hwp1:=num_step i l.length hlt HLL.out
        replace HBr:=mk0 (jj2 HBr.out)
        replace BK:=mk0 (jjq BK.out)
        replace HOc:=mk0 (Kd.R_drew HOc.out)
        replace HCv:=mk0 (Kd.C_drew HCv.out)
        refine start_ (n:=16) (S:=fun w'=>w'.cell? ⟨gb,0,none⟩=some (.string x.f0)∧w'.cell? ⟨gb,2,none⟩=some (.slice A2 x.f2.length c2)∧w'.cell? ⟨gb,3,none⟩=some (.slice A3 x.f3.length c3)) (ds:=[]) (bzs 16 0) (by kernel_rfl) rfl rfl ⟨bzC BK 0,bzC BK 2,bzC BK 3⟩ (fun hHeld=>?_)
        refine with_tabW services_t.tab11 services_t.bits11 (fun HT_ HW_=>?_)
        generalize wq.drew=wq at HBr BK HOc HCv hHeld ⊢
        refine pzS 0 (some 50) (bzs 16 1) HT_ ?_
        refine pzS 1 (some 51) (bzs 16 3) HT_ ?_
        refine pzS 2 (some 52) (bzs 16 7) HT_ ?_
        refine pzS 5 (some 55) (bzs 16 39) HT_ ?_
        refine pzS 6 (some 56) (bzs 16 103) HT_ ?_
        refine pzS 9 (some 59) (bzs 16 615) HT_ ?_
        refine tzS 3 (some 53) (bzs 16 623) HT_ HW_ hHeld ?_
        refine tzS 7 (some 57) (bzs 16 751) HT_ HW_ hHeld ?_
        refine tzS 10 (some 60) (bzs 16 1775) HT_ HW_ hHeld ?_
        refine one_ (i:=4) (N:=some 54) (bzs 16 1791) rfl rfl (jk2 HT_.out (by kernel_rfl)) (by decide) (fun K hK=>?_)
        refine gzO Try.func24 #[.int .i64 1,.string x.f0] ?_
        refine (text_c 1 x.f0 _ (by decide) HZ0.out).mono ?_
        rintro e wq ⟨v_,rfl,ho,hb⟩
        refine ⟨_,rfl,?_⟩
        replace HBr:=mk0 (jj1 HBr.out HBr.out.size hb)
        replace BK:=mk0 (jj3 BK.out hb)
        replace HOc:=mk0 (Kd.jk8 HOc.out hb)
        replace HCv:=mk0 (Kd.jj0 HCv.out hb)
        obtain ⟨R54,r54,ex_⟩:=Kd.jk4 ho
        subst ex_
        have HC54:=mk0 (Kd.jj7 ho).2.2
        have HL54:=mk0 (Kd.jj7 ho).2.1
        clear ho hb
        refine hK.out _ _ ⟨bzC BK 0,bzC BK 2,bzC BK 3⟩ (fun hHeld=>?_)
        clear hK K
        refine nzS (some 54) ?_
        refine one_ (i:=8) (N:=some 58) (bzs 16 2047) rfl rfl (jk2 HT_.out (by kernel_rfl)) (by decide) (fun K hK=>?_)
        refine gzO Try.func30 #[.int .i64 3,.slice A2 x.f2.length c2] ?_
        refine (bytes_c 3 x.f2 A2 c2 _ (by decide) HZ2.out U2.out (Kd.jj0 g2 HBr.out)).mono ?_
        rintro e wq ⟨v_,rfl,ho,hb⟩
        refine ⟨_,rfl,?_⟩
        replace HBr:=mk0 (jj1 HBr.out HBr.out.size hb)
        replace BK:=mk0 (jj3 BK.out hb)
        replace HOc:=mk0 (Kd.jk8 HOc.out hb)
        replace HCv:=mk0 (Kd.jj0 HCv.out hb)
        replace HC54:=mk0 (Kd.jj0 HC54.out hb)
        obtain ⟨R58,r58,ex_⟩:=Kd.jk4 ho
        subst ex_
        have HC58:=mk0 (Kd.jj7 ho).2.2
        have HL58:=mk0 (Kd.jj7 ho).2.1
        clear ho hb
        refine hK.out _ _ ⟨bzC BK 0,bzC BK 2,bzC BK 3⟩ (fun hHeld=>?_)
        clear hK K
        refine nzS (some 58) ?_
        refine one_ (i:=11) (N:=some 61) (bzs 16 4095) rfl rfl (jk2 HT_.out (by kernel_rfl)) (by decide) (fun K hK=>?_)
        obtain ⟨ys,hys⟩:∃ y_:List (List Int),y_=[tS 1 x.f0,acc2,oB 3 x.f2,x.f3]:=⟨_,rfl⟩
        refine Kd.N_lit_step (Kd.slice 5 (Kd.int .u8)) (w0:=wq) wq.heap.size 28 ?hg (N':=61) ?hd (xs:=([tS 1 x.f0,acc2,oB 3 x.f2,x.f3]:List (List Int))) (inner:=[.slice R54 (tS 1 x.f0).length r54,.slice Av2 (acc2).length cv2,.slice R58 (oB 3 x.f2).length r58,.slice A3 (x.f3).length c3]) (ok:=fun _=>True) (okp:=fun k_=>k_ < wq.heap.size) ?hr ?hp (fun _ _=>trivial) trivial (Below.refl _ _) (Nat.le_refl _) (by simp) ?_
        (case hd=>rfl)
        (case hg=>rfl)
        (case hr=>first|(go_simp;done)|(go_simp;rfl))
        (case hp=>exact Reps.one (fk_ HC54.out HL54.out) (Reps.one (fk_ HCv.out HLv.out) (Reps.one (fk_ HC58.out HL58.out) (Reps.one (fk_ (Kd.jj0 g3 HBr.out) l3) (Reps.none _ _)))))
        intro v_ wq hn hb hg_ hnew_
        clear hg_ hnew_
        rw [← hys] at hn
        replace HBr:=mk0 (jj1 HBr.out HBr.out.size hb)
        replace BK:=mk0 (jj3 BK.out hb)
        replace HOc:=mk0 (Kd.jk8 HOc.out hb)
        replace HCv:=mk0 (Kd.jj0 HCv.out hb)
        replace HC54:=mk0 (Kd.jj0 HC54.out hb)
        replace HC58:=mk0 (Kd.jj0 HC58.out hb)
        obtain ⟨Rz,rz,ex_⟩:=Kd.N_slice hn
        subst ex_
        have HCz:=mk0 (Kd.N_reads' hn).2.2
        clear hn hb
        have HF:=mk0 (show ys.flatten=bService x from by rw [hys];rw [HA2.out];simp [bService])
        have HY:=mk0 (show ys.length < 1000000 from by rw [hys];simp)
        clear hys
        refine hK.out _ _ ⟨bzC BK 0,bzC BK 2,bzC BK 3⟩ (fun hHeld=>?_)
        clear hK K
        refine nzS (some 61) ?_
        refine one_ (i:=12) (N:=some 62) (bzs 16 8191) rfl rfl (jk2 HT_.out (by kernel_rfl)) (by decide) (fun K hK=>?_)
        refine gzO Try.func23 #[.slice Rz ys.length rz] ?_
        refine (all_c ys Rz rz _ HCz.out (by rw [HF.out];have:=HZ.out;omega) HY.out).mono ?_
        rintro e wq ⟨v_,rfl,ho,hb⟩
        refine ⟨_,rfl,?_⟩
        replace HBr:=mk0 (jj1 HBr.out HBr.out.size hb)
        replace BK:=mk0 (jj3 BK.out hb)
        replace HOc:=mk0 (Kd.jk8 HOc.out hb)
        replace HCv:=mk0 (Kd.jj0 HCv.out hb)
        replace HC54:=mk0 (Kd.jj0 HC54.out hb)
        replace HC58:=mk0 (Kd.jj0 HC58.out hb)
        replace HCz:=mk0 (Kd.jj0 HCz.out hb)
        rw [HF.out] at ho
        obtain ⟨R62,r62,ex_⟩:=Kd.jk4 ho
        subst ex_
        have HC62:=mk0 (Kd.jj7 ho).2.2
        have HL62:=mk0 (Kd.jj7 ho).2.1
        clear ho hb
        refine hK.out _ _ ⟨bzC BK 0,bzC BK 2,bzC BK 3⟩ (fun hHeld=>?_)
        clear hK K
        refine nzS (some 62) ?_
        refine one_ (i:=13) (N:=some 63) (bzs 16 16383) rfl rfl (jk2 HT_.out (by kernel_rfl)) (by decide) (fun K hK=>?_)
        refine gzO Try.func51 #[.int .i64 num,.slice R62 (bService x).length r62] ?_
        refine (part_c num (bService x) R62 r62 _ HN.out HZ.out HC62.out HL62.out).mono ?_
        rintro e wq ⟨v_,rfl,ho,hb⟩
        refine ⟨_,rfl,?_⟩
        replace HBr:=mk0 (jj1 HBr.out HBr.out.size hb)
        replace BK:=mk0 (jj3 BK.out hb)
        replace HOc:=mk0 (Kd.jk8 HOc.out hb)
        replace HCv:=mk0 (Kd.jj0 HCv.out hb)
        replace HC54:=mk0 (Kd.jj0 HC54.out hb)
        replace HC58:=mk0 (Kd.jj0 HC58.out hb)
        replace HCz:=mk0 (Kd.jj0 HCz.out hb)
        replace HC62:=mk0 (Kd.jj0 HC62.out hb)
        obtain ⟨R63,r63,ex_⟩:=Kd.jk4 ho
        subst ex_
        have HC63:=mk0 (Kd.jj7 ho).2.2
        have HL63:=mk0 (Kd.jj7 ho).2.1
        clear ho hb
        refine hK.out _ _ ⟨bzC BK 0,bzC BK 2,bzC BK 3⟩ (fun hHeld=>?_)
        clear hK K
        refine nzS (some 63) ?_
        refine one_ (i:=14) (N:=some 64) (bzs 16 32767) rfl rfl (jk2 HT_.out (by kernel_rfl)) (by decide) (fun K hK=>?_)
        refine Kd.R_append_rows_step (Kd.int .u8) (w0:=w) w.heap.size (by rfl) (.tmp 50) (.tmp 63) 28 5 (.int .u8 0) 1 rfl Try.underlying28 GUndescBack.info5 rfl (by decide) (by omega) (.slice Av acc.length cv) acc (fB num (bService x)) _ _ _ (fun _=>True) (fun _=>False) rfl rfl HOc.out HC63.out (fun _ _ h=>h) (fun _ h=>h.elim) (fun _ _=>trivial) (jj1 HBo.out HBo.out.size HBr.out) (jj1 HBo.out HBo.out.size HBr.out).size (by have:=HLo.out;omega) ?_
        intro v1 wq ho hb hg hat
        have HOn:=mk0 ho
        have HBn:=mk0 hb
        have n_:=mk0 (blk_grown BK.out hg (Kd.R_ne HOc.out BK.out (by decide)))
        clear BK
        have BK:=n_
        clear n_
        clear ho hb hg hat
        clear HBr
        clear HOc
        clear HCv
        clear HC54
        clear HC58
        clear HCz
        clear HC62
        clear HC63
        refine hK.out _ _ ⟨bzC BK 0,bzC BK 2,bzC BK 3⟩ (fun hHeld=>?_)
        clear hK K
        refine nzS (some 64) ?_
        refine pzS 15 (some 5) (bzs 16 65535) HT_ ?_
        refine done_ (done_of HT_.out (by kernel_rfl)) ?_
        go_wp2
        go_roundg k1
        case measure=>exact Nat.lt_succ_self k1
        case rel=>exact ⟨i+1,(by first|rfl|(rw [hwp1])|(simp [hwp1];done)),⟨(Nat.add_right_comm i 1 k1).trans HI.out⟩,⟨by rw [HTo.out];exact HOn.out⟩,⟨HBn.out⟩⟩
  · have d0:=dec_ge hlt
    rw [List.take_of_length_le (Nat.le_of_not_lt hlt)] at hacc
    have HE:=mk0 hacc
    clear hacc
    go_wp2
    go_ret
    exact ⟨_,rfl,by rw [HE.out];exact HO.out,HB.out⟩
end Go.Proofs.Ytheoafenehckbaa.R1
