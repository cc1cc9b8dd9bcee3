/- The reference's lists of messages. -/
import Derived.Test.YtheoafenehckbaaQR5
import Derived.Test.YtheoafenehckbaaQSh
import Derived.LoopN
import Derived.RegionTactic
namespace Go.Proofs.Ytheoafenehckbaa.R1
open Go.RowKit GUndescBack YtheoafenehckbaaW.PrintWords YtheoafenehckbaaW.PrintLast YtheoafenehckbaaW.PrintMore Vb Wr Wp Rk Sp
set_option linter.unusedVariables false
set_option linter.unusedSimpArgs false
def CM (x:S76):Prop:=good76 x→bk76 x≤4294967296→∀ (num:Int) (hn:1≤num∧num≤536870911) (A:Option Addr) (c:Nat) (W:World),Kd.C k76 W A x.f2.length x.f2→
 Calls Try.prog 26 #[.int .i64 num,.slice A x.f2.length c] W fun e w'=>Ret_ (x.f2.flatMap fun y=>fB num (bMessage y)) W e w'
def messages1_t.T9:Bool × List (List Nat × List Nat):=(true,[([],[]),([],[]),([1],[1]),([2],[2]),([],[]),([4],[4]),([5,3],[5]),([],[]),([7],[7]),([3,6,8],[3,6,8]),([9,6],[9]),([10,10],[10]),([0,11,11],[0,11]),([12,12,0,1,2,3,4,5,6,7,8,9,10,11,12],[0,12])])
def messages1_t.B9:List Nat:=[0,0,2,6,0,16,62,0,128,510,1022,2046,4095,8191]
theorem messages1_t.tab9:rtab .any (opsOf Try.f26 9)=messages1_t.T9:=by kernel_rfl
theorem messages1_t.bits9:waitsOk messages1_t.T9.2 messages1_t.B9=true:=by kernel_rfl
def messages1_t.T11:Bool × List (List Nat × List Nat):=(true,[([],[]),([],[]),([],[]),([2],[2]),([3],[3]),([],[]),([5],[5]),([6,4],[6]),([],[]),([8],[8]),([9,7],[9]),([],[]),([11],[11]),([12,10],[12]),([],[]),([14],[14]),([15,13],[15]),([],[]),([17],[17]),([18,16],[18]),([],[]),([20],[20]),([21,19],[21]),([],[]),([],[]),([24],[24]),([25,22],[25]),([],[]),([27],[27]),([28,26],[28]),([],[]),([30],[30]),([4,7,10,13,16,19,22,23,26,29,31],[4,7,10,13,16,19,22,23,26,29,31]),([32,29],[32]),([1,33,33],[1,33]),([0,34,34],[0,34]),([35,35,0,1,2,3,4,5,6,7,8,9,10,11,12,13,14,15,16,17,18,19,20,21,22,23,24,25,26,27,28,29,30,31,32,33,34,35],[0,35])])
def messages1_t.B11:List Nat:=[0,0,0,4,12,0,32,124,0,256,1020,0,2048,8188,0,16384,65532,0,131072,524284,0,1048576,4194300,0,0,16777216,58720252,0,134217728,528482300,0,1073741824,4294967292,8589934588,17179869182,34359738367,68719476735]
theorem messages1_t.tab11:rtab .any (opsOf Try.f26 11)=messages1_t.T11:=by kernel_rfl
theorem messages1_t.bits11:waitsOk messages1_t.T11.2 messages1_t.B11=true:=by kernel_rfl
set_option maxHeartbeats 8000000 in
set_option maxRecDepth 100000 in
theorem messages1_c (l:List S76) (hg:∀ y∈l,good76 y) (ih:∀ y∈l,CM y) (hb:(l.map bk76).sum≤4294967296) (num:Int) (hn:1≤num∧num≤536870911) (A0:Option Addr) (c0:Nat) (w:World) (hC:Kd.C k76 w A0 l.length l) :
 Calls Try.prog 26 #[.int .i64 num,.slice A0 l.length c0] w fun e w'=>Ret_ (l.flatMap fun y=>fB num (bMessage y)) w e w':=by
 have hlen:=flat_len bk76 num bMessage hn l (fun y hy=>len76_ y (by have:=sum_le bk76 l y hy;omega)) hb
 have hll:=len_sum bk76 (fun y=>by rw [bk76_eq];omega) l
 have HL:Aside0 ((l.flatMap fun y=>fB num (bMessage y)).length≤1099511627776):=⟨by omega⟩
 have HS:=mk0 hb
 have HN:=mk0 hn
 have HC0:=mk0 hC
 have HB0:=mk0 (Below.refl w.heap.size w)
 replace hll:l.length < 9223372036854775807:=by omega
 clear hlen hb hn
 go_enter Try.func26,Try.ntmps26
 go_wp2
 go_loopg [5,13] l.length (fun kq v5 v13 w'=>∃ i:Nat,v13 = .int .i64 (i:Int)∧Aside0 (i+kq=l.length)∧Aside0 (Kd.R (Kd.int .u8) 5 w' w.heap.size (fun _=>True) v5 ((l.take i).flatMap fun y=>fB num (bMessage y)))∧Aside0 (Below w.heap.size w w'))
 case atStart=>exact ⟨0,rfl,⟨by omega⟩,⟨Kd.R_nil _ _ _ _ _⟩,⟨HB0.out⟩⟩
 case round=>
  obtain ⟨i,rfl,HI,HO,HB⟩:=hrel
  obtain ⟨acc,hacc⟩:∃ z,((l.take i).flatMap fun y=>fB num (bMessage y))=z:=⟨_,rfl⟩
  rw [hacc] at HO
  obtain ⟨Av,cv,ev⟩:=Kd.jk4 HO.out
  subst ev
  by_cases hlt:i < l.length
  · have hwp:=num_step i l.length hlt hll
    have d0:=dec_lt hlt
    have p0:(0≤(i:Int))=True:=eq_true (Int.natCast_nonneg i)
    have q0:((i:Int) < (l.length:Int))=True:=eq_true (Int.ofNat_lt.2 hlt)
    obtain ⟨x,hmem,hxe,htake0,hlen0⟩:=flat_step (fun y=>fB num (bMessage y)) l z76 i hlt
    rw [hacc] at htake0 hlen0
    have htake:=mk0 htake0
    have hlen:Aside0 (acc.length+(fB num (bMessage x)).length < 140737488355328):=⟨by have:=HL.out;omega⟩
    clear htake0 hlen0 hacc
    have hCw:=Kd.jj0 HC0.out HB.out
    obtain ⟨ad,cc,ea,_,hKx,hcc⟩:=Kd.C_get hCw z76 (i:Int) (Int.natCast_nonneg _) (Int.ofNat_lt.2 hlt)
    rw [Int.toNat_natCast] at hKx hcc
    rw [hxe] at hKx
    obtain ⟨A1,c1,A2,c2,A3,c3,A4,c4,A5,c5,A6,c6,A7,c7,A8,c8,A9,c9,A10,c10,ecc,l1,g1,l2,g2,l3,g3,l4,g4,l5,g5,l6,g6,l7,g7,l8,g8,l9,g9,l10,g10⟩:=k76_open hKx
    subst ecc
    obtain ⟨ex0,ex1,ex2,ex3,ex4,ex5,ex6,ex7,ex8,ex9,ex10⟩:=ez11 (m:=i*11) hcc
    subst ea
    clear hcc hKx hxe
    have hbx:bk76 x≤4294967296:=by have:=sum_le bk76 l x hmem;have:=HS.out;omega
    have hgx:=hg x hmem
    have hix:=ih x hmem hgx hbx
    rw [good76] at hgx
    have hlx:=len76_ x hbx
    have HZ:Aside0 ((bMessage x).length≤1099511627776):=⟨by omega⟩
    rw [bk76_eq] at hbx
    rw [sum_one,sum_one] at hbx
    have HZ0:Aside0 (x.f0.size≤1099511627776):=⟨by omega⟩
    have HS1:Aside0 ((x.f1.map bk88).sum≤4294967296):=⟨by omega⟩
    have HG1:Aside0 (∀ y∈x.f1,good88 y):=⟨hgx.2.1.2⟩
    have HS2:Aside0 ((x.f2.map bk76).sum≤4294967296):=⟨by omega⟩
    have HG2:Aside0 (∀ y∈x.f2,good76 y):=⟨hgx.2.2.1.2⟩
    have HS3:Aside0 ((x.f3.map bk82).sum≤4294967296):=⟨by omega⟩
    have HG3:Aside0 (∀ y∈x.f3,good82 y):=⟨hgx.2.2.2.1.2⟩
    have HS4:Aside0 ((x.f4.map bk115).sum≤4294967296):=⟨by omega⟩
    have HS5:Aside0 ((x.f5.map bk88).sum≤4294967296):=⟨by omega⟩
    have HG5:Aside0 (∀ y∈x.f5,good88 y):=⟨hgx.2.2.2.2.2.1.2⟩
    have HS6:Aside0 ((x.f6.map bk91).sum≤4294967296):=⟨by omega⟩
    have HG6:Aside0 (∀ y∈x.f6,good91 y):=⟨hgx.2.2.2.2.2.2.1.2⟩
    have HS7:Aside0 ((x.f7.map bk115).sum≤4294967296):=⟨by omega⟩
    have HS8:Aside0 ((x.f8.map (fun y:ByteArray=>y.size+1)).sum≤4294967296):=⟨by omega⟩
    have HZ9:Aside0 (x.f9.length≤1099511627776):=⟨by omega⟩
    have U9:Aside0 (Bytes x.f9):=⟨bytes_of_wf hgx.2.2.2.2.2.2.2.2.2.1.2⟩
    have HZ10:Aside0 (x.f10.length≤1099511627776):=⟨by omega⟩
    have U10:Aside0 (Bytes x.f10):=⟨bytes_of_wf hgx.2.2.2.2.2.2.2.2.2.2.2⟩
    clear hlx hbx
    have HLL:=mk0 hll
    clear hll
    cases gk with
    | zero=>exact absurd HI.out (fun h=>Nat.ne_of_lt hlt h)
    | succ k1=>
     go_wp2_with (first|((with_reducible refine jk0 (N:=7) rfl ?_);(try (refine gate_guard (by rfl) ?_;dsimp only));refine bzX 7 #[.string (⟨#[]⟩:ByteArray),.slice none 0 0,.slice none 0 0,.slice none 0 0,.slice none 0 0,.slice none 0 0,.slice none 0 0,.slice none 0 0,.slice none 0 0,.slice none 0 0,.slice none 0 0] 76 ?_;intro gb hg9 w9 hbox hb9;have HB9:=mk0 hb9;have BX9:=mk0 hbox;have HG9:=mk0 hg9;clear hb9 hbox hg9)|((with_reducible refine jjz (t:=76) (p:=7) rfl ?_);refine Sw.store_whole rfl rfl rfl gb 76 _ _ rfl rfl BX9.out (by kernel_rfl) rfl rfl ?_;intro wq hS_ hbS_ hkS_;have HBr:=mk0 (hbS_ wr.heap.size wr (Nat.le_of_eq HG9.out.symm) HB9.out);have BK:=mk0 hS_;clear hS_ hbS_ hkS_ BX9 HB9 HG9;obtain ⟨s0_,s1_,s2_,s3_,s4_,s5_,s6_,s7_,s8_,s9_,s10_⟩:=cz11 BK.out))
     obtain ⟨wo,hwo_⟩:∃ q:World,q=wr:=⟨_,rfl⟩
     subst hwo_
     have HBo:=HB
     have HRo:=HO
     have BKo:=BK
     have HLo:=hlen
     have HTo:=htake
     clear HB HO BK hlen htake hwp d0 p0 q0
     have hl2:x.f6.length < 9223372036854775807:=by have h1:=len_sum bk91 (fun y=>by unfold bk91;omega) x.f6;have:=HS6.out;omega
     have HL2:Aside0 ((x.f6.flatMap fun y=>fB 8 (bOneof y)).length≤1099511627776):=⟨by have h1:=flat_len bk91 8 bOneof (by decide) x.f6 (fun y hy=>len91_ y (by have:=sum_le bk91 x.f6 y hy;have:=HS6.out;omega)) HS6.out;have:=HS6.out;omega⟩
     have HL2b:=mk0 hl2
     clear hl2
     go_loopg [8,20] x.f6.length (fun kq v8 v20 w'=>∃ k:Nat,v20 = .int .i64 (k:Int)∧Aside0 (k+kq=x.f6.length)∧Aside0 (Kd.R (Kd.int .u8) 5 w' wo.heap.size (fun _=>True) v8 ((x.f6.take k).flatMap fun y=>fB 8 (bOneof y)))∧Aside0 (Below wo.heap.size wo w')∧Aside0 (w'.heap[gb]?=some (.cells #[.string x.f0,.slice A1 x.f1.length c1,.slice A2 x.f2.length c2,.slice A3 x.f3.length c3,.slice A4 x.f4.length c4,.slice A5 x.f5.length c5,.slice A6 x.f6.length c6,.slice A7 x.f7.length c7,.slice A8 x.f8.length c8,.slice A9 x.f9.length c9,.slice A10 x.f10.length c10] 76 (0,0))))
     case atStart=>exact ⟨0,rfl,⟨by omega⟩,⟨Kd.R_nil _ _ _ _ _⟩,⟨HBr.out⟩,⟨BKo.out⟩⟩
     case round=>
      clear HBr BKo s0_ s1_ s2_ s3_ s4_ s5_ s6_ s7_ s8_ s9_ s10_
      obtain ⟨k,rfl,HI2,HV,HBi,BK⟩:=hrel
      obtain ⟨acc2,hacc2⟩:∃ z,((x.f6.take k).flatMap fun y=>fB 8 (bOneof y))=z:=⟨_,rfl⟩
      rw [hacc2] at HV
      obtain ⟨Av2,cv2,ev2⟩:=Kd.jk4 HV.out
      subst ev2
      by_cases hlt2:k < x.f6.length
      · have hwp:=num_step k x.f6.length hlt2 HL2b.out
        have d0:=dec_lt hlt2
        have p0:(0≤(k:Int))=True:=eq_true (Int.natCast_nonneg k)
        have q0:((k:Int) < (x.f6.length:Int))=True:=eq_true (Int.ofNat_lt.2 hlt2)
        obtain ⟨y,hmem2,hxe,htake0,hlen0⟩:=flat_step (fun y=>fB 8 (bOneof y)) x.f6 z91 k hlt2
        rw [hacc2] at htake0 hlen0
        have htake:=mk0 htake0
        have hlen:Aside0 (acc2.length+(fB 8 (bOneof y)).length < 140737488355328):=⟨by have:=HL2.out;omega⟩
        clear htake0 hlen0 hacc2
        have hC2:=Kd.jj0 g6 HBi.out
        have hby:bk91 y≤4294967296:=by have:=sum_le bk91 x.f6 y hmem2;have:=HS6.out;omega
        have hgy:=HG6.out y hmem2
        obtain ⟨bd,cc,ea,_,hKx,hcc⟩:=Kd.C_get hC2 z91 (k:Int) (Int.natCast_nonneg _) (Int.ofNat_lt.2 hlt2)
        rw [Int.toNat_natCast] at hKx hcc
        rw [hxe] at hKx
        obtain ⟨B1,d1,B2,d2,ecc,m1,h1,m2,h2⟩:=k91_open hKx
        subst ecc
        obtain ⟨ey0,ey1,ey2⟩:=ez3 (m:=k*3) hcc
        subst ea
        clear hcc hKx hxe
        have hlx:=len91_ y hby
        have YZ:Aside0 ((bOneof y).length≤1099511627776):=⟨by omega⟩
        unfold bk91 at hby
        rw [sum_one,sum_one] at hby
        have YZ0:Aside0 (y.f0.size≤1099511627776):=⟨by omega⟩
        have YZ1:Aside0 (y.f1.length≤1099511627776):=⟨by omega⟩
        have YU1:Aside0 (Bytes y.f1):=⟨bytes_of_wf hgy.2.1.2⟩
        have YZ2:Aside0 (y.f2.length≤1099511627776):=⟨by omega⟩
        have YU2:Aside0 (Bytes y.f2):=⟨bytes_of_wf hgy.2.2.2⟩
        clear hlx hby
        cases gk with
        | zero=>exact absurd HI2.out (fun h=>Nat.ne_of_lt hlt2 h)
        | succ k2=>
         go_wp2_with (first|((with_reducible refine jk0 (N:=10) rfl ?_);(try (refine gate_guard (by rfl) ?_;dsimp only));refine bzX 10 #[.string (⟨#[]⟩:ByteArray),.slice none 0 0,.slice none 0 0] 91 ?_;intro gc hg9 w9 hbox hb9;have HB9:=mk0 hb9;have BX9:=mk0 hbox;have HG9:=mk0 hg9;clear hb9 hbox hg9)|((with_reducible refine jjz (t:=91) (p:=10) rfl ?_);refine Sw.store_whole rfl rfl rfl gc 91 _ _ rfl rfl BX9.out (by kernel_rfl) rfl rfl ?_;intro wq hS_ hbS_ hkS_;have HBr:=mk0 (hbS_ wr.heap.size wr (Nat.le_of_eq HG9.out.symm) HB9.out);have BC:=mk0 hS_;clear hS_ hbS_ hkS_ BX9 HB9 HG9;obtain ⟨s0_,s1_,s2_⟩:=cz3 BC.out))
         have HVc:=mk0 (Kd.jk8 HV.out HBr.out)
         have BKc:=mk0 (jj3 BK.out HBr.out)
         replace HBr:=mk0 (jj2 HBr.out)
         replace BC:=mk0 (jjq BC.out)
         replace BKc:=mk0 (jjq BKc.out)
         replace HVc:=mk0 (Kd.R_drew HVc.out)
         refine start_ (n:=14) (S:=fun w'=>w'.cell? ⟨gc,0,none⟩=some (.string y.f0)∧w'.cell? ⟨gc,1,none⟩=some (.slice B1 y.f1.length d1)∧w'.cell? ⟨gc,2,none⟩=some (.slice B2 y.f2.length d2)) (ds:=[]) (bzs 14 0) (by kernel_rfl) rfl rfl ⟨bzC BC 0,bzC BC 1,bzC BC 2⟩ (fun hHeld=>?_)
         refine with_tabW messages1_t.tab9 messages1_t.bits9 (fun HT_ HW_=>?_)
         generalize wq.drew=wq at HBr BC BKc HVc hHeld ⊢
         refine pzS 0 (some 24) (bzs 14 1) HT_ ?_
         refine pzS 1 (some 25) (bzs 14 3) HT_ ?_
         refine pzS 4 (some 28) (bzs 14 19) HT_ ?_
         refine pzS 7 (some 31) (bzs 14 147) HT_ ?_
         refine tzS 2 (some 26) (bzs 14 151) HT_ HW_ hHeld ?_
         refine tzS 5 (some 29) (bzs 14 183) HT_ HW_ hHeld ?_
         refine tzS 8 (some 32) (bzs 14 439) HT_ HW_ hHeld ?_
         refine one_ (i:=3) (N:=some 27) (bzs 14 447) rfl rfl (jk2 HT_.out (by kernel_rfl)) (by decide) (fun K hK=>?_)
         refine gzO Try.func24 #[.int .i64 1,.string y.f0] ?_
         refine (text_c 1 y.f0 _ (by decide) YZ0.out).mono ?_
         rintro e wq ⟨v_,rfl,ho,hb⟩
         refine ⟨_,rfl,?_⟩
         replace HBr:=mk0 (jj1 HBr.out HBr.out.size hb)
         replace BC:=mk0 (jj3 BC.out hb)
         replace BKc:=mk0 (jj3 BKc.out hb)
         replace HVc:=mk0 (Kd.jk8 HVc.out hb)
         obtain ⟨R27,r27,ex_⟩:=Kd.jk4 ho
         subst ex_
         have HC27:=mk0 (Kd.jj7 ho).2.2
         have HL27:=mk0 (Kd.jj7 ho).2.1
         clear ho hb
         refine hK.out _ _ ⟨bzC BC 0,bzC BC 1,bzC BC 2⟩ (fun hHeld=>?_)
         clear hK K
         refine nzS (some 27) ?_
         refine one_ (i:=6) (N:=some 30) (bzs 14 511) rfl rfl (jk2 HT_.out (by kernel_rfl)) (by decide) (fun K hK=>?_)
         refine gzO Try.func30 #[.int .i64 2,.slice B1 y.f1.length d1] ?_
         refine (bytes_c 2 y.f1 B1 d1 _ (by decide) YZ1.out YU1.out (Kd.jj0 h1 HBr.out)).mono ?_
         rintro e wq ⟨v_,rfl,ho,hb⟩
         refine ⟨_,rfl,?_⟩
         replace HBr:=mk0 (jj1 HBr.out HBr.out.size hb)
         replace BC:=mk0 (jj3 BC.out hb)
         replace BKc:=mk0 (jj3 BKc.out hb)
         replace HVc:=mk0 (Kd.jk8 HVc.out hb)
         replace HC27:=mk0 (Kd.jj0 HC27.out hb)
         obtain ⟨R30,r30,ex_⟩:=Kd.jk4 ho
         subst ex_
         have HC30:=mk0 (Kd.jj7 ho).2.2
         have HL30:=mk0 (Kd.jj7 ho).2.1
         clear ho hb
         refine hK.out _ _ ⟨bzC BC 0,bzC BC 1,bzC BC 2⟩ (fun hHeld=>?_)
         clear hK K
         refine nzS (some 30) ?_
         refine one_ (i:=9) (N:=some 33) (bzs 14 1023) rfl rfl (jk2 HT_.out (by kernel_rfl)) (by decide) (fun K hK=>?_)
         obtain ⟨ys,hys⟩:∃ y_:List (List Int),y_=[tS 1 y.f0,oB 2 y.f1,y.f2]:=⟨_,rfl⟩
         refine Kd.N_lit_step (Kd.slice 5 (Kd.int .u8)) (w0:=wq) wq.heap.size 28 ?hg (N':=33) ?hd (xs:=([tS 1 y.f0,oB 2 y.f1,y.f2]:List (List Int))) (inner:=[.slice R27 (tS 1 y.f0).length r27,.slice R30 (oB 2 y.f1).length r30,.slice B2 (y.f2).length d2]) (ok:=fun _=>True) (okp:=fun k_=>k_ < wq.heap.size) ?hr ?hp (fun _ _=>trivial) trivial (Below.refl _ _) (Nat.le_refl _) (by simp) ?_
         (case hd=>rfl)
         (case hg=>rfl)
         (case hr=>first|(go_simp;done)|(go_simp;rfl))
         (case hp=>exact Reps.one (fk_ HC27.out HL27.out) (Reps.one (fk_ HC30.out HL30.out) (Reps.one (fk_ (Kd.jj0 h2 HBr.out) m2) (Reps.none _ _))))
         intro v_ wq hn hb hg_ hnew_
         clear hg_ hnew_
         rw [← hys] at hn
         replace HBr:=mk0 (jj1 HBr.out HBr.out.size hb)
         replace BC:=mk0 (jj3 BC.out hb)
         replace BKc:=mk0 (jj3 BKc.out hb)
         replace HVc:=mk0 (Kd.jk8 HVc.out hb)
         replace HC27:=mk0 (Kd.jj0 HC27.out hb)
         replace HC30:=mk0 (Kd.jj0 HC30.out hb)
         obtain ⟨Rz,rz,ex_⟩:=Kd.N_slice hn
         subst ex_
         have HCz:=mk0 (Kd.N_reads' hn).2.2
         clear hn hb
         have HF:=mk0 (show ys.flatten=bOneof y from by rw [hys];simp [bOneof])
         have HY:=mk0 (show ys.length < 1000000 from by rw [hys];simp)
         clear hys
         refine hK.out _ _ ⟨bzC BC 0,bzC BC 1,bzC BC 2⟩ (fun hHeld=>?_)
         clear hK K
         refine nzS (some 33) ?_
         refine one_ (i:=10) (N:=some 34) (bzs 14 2047) rfl rfl (jk2 HT_.out (by kernel_rfl)) (by decide) (fun K hK=>?_)
         refine gzO Try.func23 #[.slice Rz ys.length rz] ?_
         refine (all_c ys Rz rz _ HCz.out (by rw [HF.out];have:=YZ.out;omega) HY.out).mono ?_
         rintro e wq ⟨v_,rfl,ho,hb⟩
         refine ⟨_,rfl,?_⟩
         replace HBr:=mk0 (jj1 HBr.out HBr.out.size hb)
         replace BC:=mk0 (jj3 BC.out hb)
         replace BKc:=mk0 (jj3 BKc.out hb)
         replace HVc:=mk0 (Kd.jk8 HVc.out hb)
         replace HC27:=mk0 (Kd.jj0 HC27.out hb)
         replace HC30:=mk0 (Kd.jj0 HC30.out hb)
         replace HCz:=mk0 (Kd.jj0 HCz.out hb)
         rw [HF.out] at ho
         obtain ⟨R34,r34,ex_⟩:=Kd.jk4 ho
         subst ex_
         have HC34:=mk0 (Kd.jj7 ho).2.2
         have HL34:=mk0 (Kd.jj7 ho).2.1
         clear ho hb
         refine hK.out _ _ ⟨bzC BC 0,bzC BC 1,bzC BC 2⟩ (fun hHeld=>?_)
         clear hK K
         refine nzS (some 34) ?_
         refine one_ (i:=11) (N:=some 35) (bzs 14 4095) rfl rfl (jk2 HT_.out (by kernel_rfl)) (by decide) (fun K hK=>?_)
         refine gzO Try.func51 #[.int .i64 8,.slice R34 (bOneof y).length r34] ?_
         refine (part_c 8 (bOneof y) R34 r34 _ (by decide) YZ.out HC34.out HL34.out).mono ?_
         rintro e wq ⟨v_,rfl,ho,hb⟩
         refine ⟨_,rfl,?_⟩
         replace HBr:=mk0 (jj1 HBr.out HBr.out.size hb)
         replace BC:=mk0 (jj3 BC.out hb)
         replace BKc:=mk0 (jj3 BKc.out hb)
         replace HVc:=mk0 (Kd.jk8 HVc.out hb)
         replace HC27:=mk0 (Kd.jj0 HC27.out hb)
         replace HC30:=mk0 (Kd.jj0 HC30.out hb)
         replace HCz:=mk0 (Kd.jj0 HCz.out hb)
         replace HC34:=mk0 (Kd.jj0 HC34.out hb)
         obtain ⟨R35,r35,ex_⟩:=Kd.jk4 ho
         subst ex_
         have HC35:=mk0 (Kd.jj7 ho).2.2
         have HL35:=mk0 (Kd.jj7 ho).2.1
         clear ho hb
         refine hK.out _ _ ⟨bzC BC 0,bzC BC 1,bzC BC 2⟩ (fun hHeld=>?_)
         clear hK K
         refine nzS (some 35) ?_
         refine one_ (i:=12) (N:=some 36) (bzs 14 8191) rfl rfl (jk2 HT_.out (by kernel_rfl)) (by decide) (fun K hK=>?_)
         refine Kd.R_append_rows_step (Kd.int .u8) (w0:=wo) wo.heap.size (by rfl) (.tmp 24) (.tmp 35) 28 5 (.int .u8 0) 1 rfl Try.underlying28 GUndescBack.info5 rfl (by decide) (by omega) (.slice Av2 acc2.length cv2) acc2 (fB 8 (bOneof y)) _ _ _ (fun _=>True) (fun _=>False) rfl rfl HVc.out HC35.out (fun _ _ h=>h) (fun _ h=>h.elim) (fun _ _=>trivial) (jj1 HBi.out HBi.out.size HBr.out) (jj1 HBi.out HBi.out.size HBr.out).size (by have:=hlen.out;omega) ?_
         intro v1 wq ho hb hg hat
         have HOn:=mk0 ho
         have HBn:=mk0 hb
         have n_:=mk0 (blk_grown BC.out hg (Kd.R_ne HVc.out BC.out (by decide)))
         clear BC
         have BC:=n_
         clear n_
         have n_:=mk0 (blk_grown BKc.out hg (Kd.R_ne HVc.out BKc.out (by decide)))
         clear BKc
         have BKc:=n_
         clear n_
         clear ho hb hg hat
         clear HBr
         clear HVc
         clear HC27
         clear HC30
         clear HCz
         clear HC34
         clear HC35
         refine hK.out _ _ ⟨bzC BC 0,bzC BC 1,bzC BC 2⟩ (fun hHeld=>?_)
         clear hK K
         refine nzS (some 36) ?_
         refine pzS 13 (some 8) (bzs 14 16383) HT_ ?_
         refine done_ (done_of HT_.out (by kernel_rfl)) ?_
         go_wp2
         go_roundg k2
         case measure=>exact Nat.lt_succ_self k2
         case rel=>exact ⟨k+1,(by first|rfl|(rw [hwp])|(simp [hwp];done)),⟨(Nat.add_right_comm k 1 k2).trans HI2.out⟩,⟨by rw [htake.out];exact HOn.out⟩,⟨HBn.out⟩,⟨BKc.out⟩⟩
      · have d0:=dec_ge hlt2
        rw [List.take_of_length_le (Nat.le_of_not_lt hlt2)] at hacc2
        have HA2:=mk0 hacc2.symm
        clear hacc2
        obtain ⟨s0_,s1_,s2_,s3_,s4_,s5_,s6_,s7_,s8_,s9_,s10_⟩:=cz11 BK.out
        obtain ⟨wq,hwq_⟩:∃ q:World,q=wr:=⟨_,rfl⟩
        subst hwq_
        go_wp2
        have HBr:=HBi
        have HOc:=mk0 (Kd.jk8 HRo.out HBr.out)
        have HCv:=mk0 (Kd.jj7 HV.out).2.2
        have HLv:=mk0 (Kd.jj7 HV.out).2.1
        clear HV HBi s0_ s1_ s2_ s3_ s4_ s5_ s6_ s7_ s8_ s9_ s10_
        have hwp1:=num_step i l.length hlt HLL.out
        replace HBr:=mk0 (jj2 HBr.out)
        replace BK:=mk0 (jjq BK.out)
        replace HOc:=mk0 (Kd.R_drew HOc.out)
        replace HCv:=mk0 (Kd.C_drew HCv.out)
        refine start_ (n:=37) (S:=fun w'=>w'.cell? ⟨gb,0,none⟩=some (.string x.f0)∧w'.cell? ⟨gb,1,none⟩=some (.slice A1 x.f1.length c1)∧w'.cell? ⟨gb,2,none⟩=some (.slice A2 x.f2.length c2)∧w'.cell? ⟨gb,3,none⟩=some (.slice A3 x.f3.length c3)∧w'.cell? ⟨gb,4,none⟩=some (.slice A4 x.f4.length c4)∧w'.cell? ⟨gb,5,none⟩=some (.slice A5 x.f5.length c5)∧w'.cell? ⟨gb,7,none⟩=some (.slice A7 x.f7.length c7)∧w'.cell? ⟨gb,8,none⟩=some (.slice A8 x.f8.length c8)∧w'.cell? ⟨gb,9,none⟩=some (.slice A9 x.f9.length c9)∧w'.cell? ⟨gb,10,none⟩=some (.slice A10 x.f10.length c10)) (ds:=[]) (bzs 37 0) (by kernel_rfl) rfl rfl ⟨bzC BK 0,bzC BK 1,bzC BK 2,bzC BK 3,bzC BK 4,bzC BK 5,bzC BK 7,bzC BK 8,bzC BK 9,bzC BK 10⟩ (fun hHeld=>?_)
        refine with_tabW messages1_t.tab11 messages1_t.bits11 (fun HT_ HW_=>?_)
        generalize wq.drew=wq at HBr BK HOc HCv hHeld ⊢
        refine pzS 0 (some 38) (bzs 37 1) HT_ ?_
        refine pzS 1 (some 39) (bzs 37 3) HT_ ?_
        refine pzS 2 (some 40) (bzs 37 7) HT_ ?_
        refine pzS 5 (some 43) (bzs 37 39) HT_ ?_
        refine pzS 8 (some 46) (bzs 37 295) HT_ ?_
        refine pzS 11 (some 49) (bzs 37 2343) HT_ ?_
        refine pzS 14 (some 52) (bzs 37 18727) HT_ ?_
        refine pzS 17 (some 55) (bzs 37 149799) HT_ ?_
        refine pzS 20 (some 58) (bzs 37 1198375) HT_ ?_
        refine pzS 23 (some 61) (bzs 37 9586983) HT_ ?_
        refine pzS 24 (some 62) (bzs 37 26364199) HT_ ?_
        refine pzS 27 (some 65) (bzs 37 160581927) HT_ ?_
        refine pzS 30 (some 68) (bzs 37 1234323751) HT_ ?_
        refine tzS 3 (some 41) (bzs 37 1234323759) HT_ HW_ hHeld ?_
        refine tzS 6 (some 44) (bzs 37 1234323823) HT_ HW_ hHeld ?_
        refine tzS 9 (some 47) (bzs 37 1234324335) HT_ HW_ hHeld ?_
        refine tzS 12 (some 50) (bzs 37 1234328431) HT_ HW_ hHeld ?_
        refine tzS 15 (some 53) (bzs 37 1234361199) HT_ HW_ hHeld ?_
        refine tzS 18 (some 56) (bzs 37 1234623343) HT_ HW_ hHeld ?_
        refine tzS 21 (some 59) (bzs 37 1236720495) HT_ HW_ hHeld ?_
        refine tzS 25 (some 63) (bzs 37 1270274927) HT_ HW_ hHeld ?_
        refine tzS 28 (some 66) (bzs 37 1538710383) HT_ HW_ hHeld ?_
        refine tzS 31 (some 69) (bzs 37 3686194031) HT_ HW_ hHeld ?_
        refine one_ (i:=4) (N:=some 42) (bzs 37 3686194047) rfl rfl (jk2 HT_.out (by kernel_rfl)) (by decide) (fun K hK=>?_)
        refine gzO Try.func24 #[.int .i64 1,.string x.f0] ?_
        refine (text_c 1 x.f0 _ (by decide) HZ0.out).mono ?_
        rintro e wq ⟨v_,rfl,ho,hb⟩
        refine ⟨_,rfl,?_⟩
        replace HBr:=mk0 (jj1 HBr.out HBr.out.size hb)
        replace BK:=mk0 (jj3 BK.out hb)
        replace HOc:=mk0 (Kd.jk8 HOc.out hb)
        replace HCv:=mk0 (Kd.jj0 HCv.out hb)
        obtain ⟨R42,r42,ex_⟩:=Kd.jk4 ho
        subst ex_
        have HC42:=mk0 (Kd.jj7 ho).2.2
        have HL42:=mk0 (Kd.jj7 ho).2.1
        clear ho hb
        refine hK.out _ _ ⟨bzC BK 0,bzC BK 1,bzC BK 2,bzC BK 3,bzC BK 4,bzC BK 5,bzC BK 7,bzC BK 8,bzC BK 9,bzC BK 10⟩ (fun hHeld=>?_)
        clear hK K
        refine nzS (some 42) ?_
        refine one_ (i:=7) (N:=some 45) (bzs 37 3686194175) rfl rfl (jk2 HT_.out (by kernel_rfl)) (by decide) (fun K hK=>?_)
        refine gzO Try.func29 #[.int .i64 2,.slice A1 x.f1.length c1] ?_
        refine (fields_c x.f1 HG1.out HS1.out 2 (by decide) A1 c1 _ (Kd.jj0 g1 HBr.out)).mono ?_
        rintro e wq ⟨v_,rfl,ho,hb⟩
        refine ⟨_,rfl,?_⟩
        replace HBr:=mk0 (jj1 HBr.out HBr.out.size hb)
        replace BK:=mk0 (jj3 BK.out hb)
        replace HOc:=mk0 (Kd.jk8 HOc.out hb)
        replace HCv:=mk0 (Kd.jj0 HCv.out hb)
        replace HC42:=mk0 (Kd.jj0 HC42.out hb)
        obtain ⟨R45,r45,ex_⟩:=Kd.jk4 ho
        subst ex_
        have HC45:=mk0 (Kd.jj7 ho).2.2
        have HL45:=mk0 (Kd.jj7 ho).2.1
        clear ho hb
        refine hK.out _ _ ⟨bzC BK 0,bzC BK 1,bzC BK 2,bzC BK 3,bzC BK 4,bzC BK 5,bzC BK 7,bzC BK 8,bzC BK 9,bzC BK 10⟩ (fun hHeld=>?_)
        clear hK K
        refine nzS (some 45) ?_
        refine one_ (i:=10) (N:=some 48) (bzs 37 3686195199) rfl rfl (jk2 HT_.out (by kernel_rfl)) (by decide) (fun K hK=>?_)
        refine gzO Try.func26 #[.int .i64 3,.slice A2 x.f2.length c2] ?_
        refine (hix 3 (by decide) A2 c2 _ (Kd.jj0 g2 HBr.out)).mono ?_
        rintro e wq ⟨v_,rfl,ho,hb⟩
        refine ⟨_,rfl,?_⟩
        replace HBr:=mk0 (jj1 HBr.out HBr.out.size hb)
        replace BK:=mk0 (jj3 BK.out hb)
        replace HOc:=mk0 (Kd.jk8 HOc.out hb)
        replace HCv:=mk0 (Kd.jj0 HCv.out hb)
        replace HC42:=mk0 (Kd.jj0 HC42.out hb)
        replace HC45:=mk0 (Kd.jj0 HC45.out hb)
        obtain ⟨R48,r48,ex_⟩:=Kd.jk4 ho
        subst ex_
        have HC48:=mk0 (Kd.jj7 ho).2.2
        have HL48:=mk0 (Kd.jj7 ho).2.1
        clear ho hb
        refine hK.out _ _ ⟨bzC BK 0,bzC BK 1,bzC BK 2,bzC BK 3,bzC BK 4,bzC BK 5,bzC BK 7,bzC BK 8,bzC BK 9,bzC BK 10⟩ (fun hHeld=>?_)
        clear hK K
        refine nzS (some 48) ?_
        refine one_ (i:=13) (N:=some 51) (bzs 37 3686203391) rfl rfl (jk2 HT_.out (by kernel_rfl)) (by decide) (fun K hK=>?_)
        refine gzO Try.func27 #[.int .i64 4,.slice A3 x.f3.length c3] ?_
        refine (enums_c x.f3 HG3.out HS3.out 4 (by decide) A3 c3 _ (Kd.jj0 g3 HBr.out)).mono ?_
        rintro e wq ⟨v_,rfl,ho,hb⟩
        refine ⟨_,rfl,?_⟩
        replace HBr:=mk0 (jj1 HBr.out HBr.out.size hb)
        replace BK:=mk0 (jj3 BK.out hb)
        replace HOc:=mk0 (Kd.jk8 HOc.out hb)
        replace HCv:=mk0 (Kd.jj0 HCv.out hb)
        replace HC42:=mk0 (Kd.jj0 HC42.out hb)
        replace HC45:=mk0 (Kd.jj0 HC45.out hb)
        replace HC48:=mk0 (Kd.jj0 HC48.out hb)
        obtain ⟨R51,r51,ex_⟩:=Kd.jk4 ho
        subst ex_
        have HC51:=mk0 (Kd.jj7 ho).2.2
        have HL51:=mk0 (Kd.jj7 ho).2.1
        clear ho hb
        refine hK.out _ _ ⟨bzC BK 0,bzC BK 1,bzC BK 2,bzC BK 3,bzC BK 4,bzC BK 5,bzC BK 7,bzC BK 8,bzC BK 9,bzC BK 10⟩ (fun hHeld=>?_)
        clear hK K
        refine nzS (some 51) ?_
        refine one_ (i:=16) (N:=some 54) (bzs 37 3686268927) rfl rfl (jk2 HT_.out (by kernel_rfl)) (by decide) (fun K hK=>?_)
        refine gzO Try.func52 #[.int .i64 5,.slice A4 x.f4.length c4] ?_
        refine (ranges_c x.f4 HS4.out 5 (by decide) A4 c4 _ (Kd.jj0 g4 HBr.out)).mono ?_
        rintro e wq ⟨v_,rfl,ho,hb⟩
        refine ⟨_,rfl,?_⟩
        replace HBr:=mk0 (jj1 HBr.out HBr.out.size hb)
        replace BK:=mk0 (jj3 BK.out hb)
        replace HOc:=mk0 (Kd.jk8 HOc.out hb)
        replace HCv:=mk0 (Kd.jj0 HCv.out hb)
        replace HC42:=mk0 (Kd.jj0 HC42.out hb)
        replace HC45:=mk0 (Kd.jj0 HC45.out hb)
        replace HC48:=mk0 (Kd.jj0 HC48.out hb)
        replace HC51:=mk0 (Kd.jj0 HC51.out hb)
        obtain ⟨R54,r54,ex_⟩:=Kd.jk4 ho
        subst ex_
        have HC54:=mk0 (Kd.jj7 ho).2.2
        have HL54:=mk0 (Kd.jj7 ho).2.1
        clear ho hb
        refine hK.out _ _ ⟨bzC BK 0,bzC BK 1,bzC BK 2,bzC BK 3,bzC BK 4,bzC BK 5,bzC BK 7,bzC BK 8,bzC BK 9,bzC BK 10⟩ (fun hHeld=>?_)
        clear hK K
        refine nzS (some 54) ?_
        refine one_ (i:=19) (N:=some 57) (bzs 37 3686793215) rfl rfl (jk2 HT_.out (by kernel_rfl)) (by decide) (fun K hK=>?_)
        refine gzO Try.func29 #[.int .i64 6,.slice A5 x.f5.length c5] ?_
        refine (fields_c x.f5 HG5.out HS5.out 6 (by decide) A5 c5 _ (Kd.jj0 g5 HBr.out)).mono ?_
        rintro e wq ⟨v_,rfl,ho,hb⟩
        refine ⟨_,rfl,?_⟩
        replace HBr:=mk0 (jj1 HBr.out HBr.out.size hb)
        replace BK:=mk0 (jj3 BK.out hb)
        replace HOc:=mk0 (Kd.jk8 HOc.out hb)
        replace HCv:=mk0 (Kd.jj0 HCv.out hb)
        replace HC42:=mk0 (Kd.jj0 HC42.out hb)
        replace HC45:=mk0 (Kd.jj0 HC45.out hb)
        replace HC48:=mk0 (Kd.jj0 HC48.out hb)
        replace HC51:=mk0 (Kd.jj0 HC51.out hb)
        replace HC54:=mk0 (Kd.jj0 HC54.out hb)
        obtain ⟨R57,r57,ex_⟩:=Kd.jk4 ho
        subst ex_
        have HC57:=mk0 (Kd.jj7 ho).2.2
        have HL57:=mk0 (Kd.jj7 ho).2.1
        clear ho hb
        refine hK.out _ _ ⟨bzC BK 0,bzC BK 1,bzC BK 2,bzC BK 3,bzC BK 4,bzC BK 5,bzC BK 7,bzC BK 8,bzC BK 9,bzC BK 10⟩ (fun hHeld=>?_)
        clear hK K
        refine nzS (some 57) ?_
        refine one_ (i:=22) (N:=some 60) (bzs 37 3690987519) rfl rfl (jk2 HT_.out (by kernel_rfl)) (by decide) (fun K hK=>?_)
        refine gzO Try.func30 #[.int .i64 7,.slice A9 x.f9.length c9] ?_
        refine (bytes_c 7 x.f9 A9 c9 _ (by decide) HZ9.out U9.out (Kd.jj0 g9 HBr.out)).mono ?_
        rintro e wq ⟨v_,rfl,ho,hb⟩
        refine ⟨_,rfl,?_⟩
        replace HBr:=mk0 (jj1 HBr.out HBr.out.size hb)
        replace BK:=mk0 (jj3 BK.out hb)
        replace HOc:=mk0 (Kd.jk8 HOc.out hb)
        replace HCv:=mk0 (Kd.jj0 HCv.out hb)
        replace HC42:=mk0 (Kd.jj0 HC42.out hb)
        replace HC45:=mk0 (Kd.jj0 HC45.out hb)
        replace HC48:=mk0 (Kd.jj0 HC48.out hb)
        replace HC51:=mk0 (Kd.jj0 HC51.out hb)
        replace HC54:=mk0 (Kd.jj0 HC54.out hb)
        replace HC57:=mk0 (Kd.jj0 HC57.out hb)
        obtain ⟨R60,r60,ex_⟩:=Kd.jk4 ho
        subst ex_
        have HC60:=mk0 (Kd.jj7 ho).2.2
        have HL60:=mk0 (Kd.jj7 ho).2.1
        clear ho hb
        refine hK.out _ _ ⟨bzC BK 0,bzC BK 1,bzC BK 2,bzC BK 3,bzC BK 4,bzC BK 5,bzC BK 7,bzC BK 8,bzC BK 9,bzC BK 10⟩ (fun hHeld=>?_)
        clear hK K
        refine nzS (some 60) ?_
        refine one_ (i:=26) (N:=some 64) (bzs 37 3758096383) rfl rfl (jk2 HT_.out (by kernel_rfl)) (by decide) (fun K hK=>?_)
        refine gzO Try.func52 #[.int .i64 9,.slice A7 x.f7.length c7] ?_
        refine (ranges_c x.f7 HS7.out 9 (by decide) A7 c7 _ (Kd.jj0 g7 HBr.out)).mono ?_
        rintro e wq ⟨v_,rfl,ho,hb⟩
        refine ⟨_,rfl,?_⟩
        have n0_:=mk0 (jj1 HBr.out HBr.out.size hb)
        have n1_:=mk0 (jj3 BK.out hb)
        have n2_:=mk0 (Kd.jk8 HOc.out hb)
        have n3_:=mk0 (Kd.jj0 HCv.out hb)
        have n4_:=mk0 (Kd.jj0 HC42.out hb)
        have n5_:=mk0 (Kd.jj0 HC45.out hb)
        have n6_:=mk0 (Kd.jj0 HC48.out hb)
        have n7_:=mk0 (Kd.jj0 HC51.out hb)
        have n8_:=mk0 (Kd.jj0 HC54.out hb)
        have n9_:=mk0 (Kd.jj0 HC57.out hb)
        have n10_:=mk0 (Kd.jj0 HC60.out hb)
        clear HBr BK HOc HCv HC42 HC45 HC48 HC51 HC54 HC57 HC60
        have HBr:=n0_
        have BK:=n1_
        have HOc:=n2_
        have HCv:=n3_
        have HC42:=n4_
        have HC45:=n5_
        have HC48:=n6_
        have HC51:=n7_
        have HC54:=n8_
        have HC57:=n9_
        have HC60:=n10_
        clear n0_ n1_ n2_ n3_ n4_ n5_ n6_ n7_ n8_ n9_ n10_
        obtain ⟨R64,r64,ex_⟩:=Kd.jk4 ho
        subst ex_
        have HC64:=mk0 (Kd.jj7 ho).2.2
        have HL64:=mk0 (Kd.jj7 ho).2.1
        clear ho hb
        refine hK.out _ _ ⟨bzC BK 0,bzC BK 1,bzC BK 2,bzC BK 3,bzC BK 4,bzC BK 5,bzC BK 7,bzC BK 8,bzC BK 9,bzC BK 10⟩ (fun hHeld=>?_)
        clear hK K
        refine nzS (some 64) ?_
        refine one_ (i:=29) (N:=some 67) (bzs 37 4294967295) rfl rfl (jk2 HT_.out (by kernel_rfl)) (by decide) (fun K hK=>?_)
        refine gzO Try.func25 #[.int .i64 10,.slice A8 x.f8.length c8] ?_
        refine (texts_c x.f8 HS8.out 10 (by decide) A8 c8 _ (Kd.jj0 g8 HBr.out)).mono ?_
        rintro e wq ⟨v_,rfl,ho,hb⟩
        refine ⟨_,rfl,?_⟩
        have n0_:=mk0 (jj1 HBr.out HBr.out.size hb)
        have n1_:=mk0 (jj3 BK.out hb)
        have n2_:=mk0 (Kd.jk8 HOc.out hb)
        have n3_:=mk0 (Kd.jj0 HCv.out hb)
        have n4_:=mk0 (Kd.jj0 HC42.out hb)
        have n5_:=mk0 (Kd.jj0 HC45.out hb)
        have n6_:=mk0 (Kd.jj0 HC48.out hb)
        have n7_:=mk0 (Kd.jj0 HC51.out hb)
        have n8_:=mk0 (Kd.jj0 HC54.out hb)
        have n9_:=mk0 (Kd.jj0 HC57.out hb)
        have n10_:=mk0 (Kd.jj0 HC60.out hb)
        have n11_:=mk0 (Kd.jj0 HC64.out hb)
        clear HBr BK HOc HCv HC42 HC45 HC48 HC51 HC54 HC57 HC60 HC64
        have HBr:=n0_
        have BK:=n1_
        have HOc:=n2_
        have HCv:=n3_
        have HC42:=n4_
        have HC45:=n5_
        have HC48:=n6_
        have HC51:=n7_
        have HC54:=n8_
        have HC57:=n9_
        have HC60:=n10_
        have HC64:=n11_
        clear n0_ n1_ n2_ n3_ n4_ n5_ n6_ n7_ n8_ n9_ n10_ n11_
        obtain ⟨R67,r67,ex_⟩:=Kd.jk4 ho
        subst ex_
        have HC67:=mk0 (Kd.jj7 ho).2.2
        have HL67:=mk0 (Kd.jj7 ho).2.1
        clear ho hb
        refine hK.out _ _ ⟨bzC BK 0,bzC BK 1,bzC BK 2,bzC BK 3,bzC BK 4,bzC BK 5,bzC BK 7,bzC BK 8,bzC BK 9,bzC BK 10⟩ (fun hHeld=>?_)
        clear hK K
        refine nzS (some 67) ?_
        refine one_ (i:=32) (N:=some 70) (bzs 37 8589934591) rfl rfl (jk2 HT_.out (by kernel_rfl)) (by decide) (fun K hK=>?_)
        obtain ⟨ys,hys⟩:∃ y_:List (List Int),y_=[tS 1 x.f0,(x.f1.flatMap fun y=>fB 2 (bField y)),(x.f2.flatMap fun y=>fB 3 (bMessage y)),(x.f3.flatMap fun y=>fB 4 (bEnum y)),(x.f4.flatMap fun y=>fB 5 (bRange y)),(x.f5.flatMap fun y=>fB 6 (bField y)),oB 7 x.f9,acc2,(x.f7.flatMap fun y=>fB 9 (bRange y)),(x.f8.flatMap fun y=>fB 10 (bytesOf y)),x.f10]:=⟨_,rfl⟩
        refine Kd.N_lit_step (Kd.slice 5 (Kd.int .u8)) (w0:=wq) wq.heap.size 28 ?hg (N':=70) ?hd (xs:=([tS 1 x.f0,(x.f1.flatMap fun y=>fB 2 (bField y)),(x.f2.flatMap fun y=>fB 3 (bMessage y)),(x.f3.flatMap fun y=>fB 4 (bEnum y)),(x.f4.flatMap fun y=>fB 5 (bRange y)),(x.f5.flatMap fun y=>fB 6 (bField y)),oB 7 x.f9,acc2,(x.f7.flatMap fun y=>fB 9 (bRange y)),(x.f8.flatMap fun y=>fB 10 (bytesOf y)),x.f10]:List (List Int))) (inner:=[.slice R42 (tS 1 x.f0).length r42,.slice R45 ((x.f1.flatMap fun y=>fB 2 (bField y))).length r45,.slice R48 ((x.f2.flatMap fun y=>fB 3 (bMessage y))).length r48,.slice R51 ((x.f3.flatMap fun y=>fB 4 (bEnum y))).length r51,.slice R54 ((x.f4.flatMap fun y=>fB 5 (bRange y))).length r54,.slice R57 ((x.f5.flatMap fun y=>fB 6 (bField y))).length r57,.slice R60 (oB 7 x.f9).length r60,.slice Av2 (acc2).length cv2,.slice R64 ((x.f7.flatMap fun y=>fB 9 (bRange y))).length r64,.slice R67 ((x.f8.flatMap fun y=>fB 10 (bytesOf y))).length r67,.slice A10 (x.f10).length c10]) (ok:=fun _=>True) (okp:=fun k_=>k_ < wq.heap.size) ?hr ?hp (fun _ _=>trivial) trivial (Below.refl _ _) (Nat.le_refl _) (by simp) ?_
        (case hd=>rfl)
        (case hg=>rfl)
        (case hr=>first|(go_simp;done)|(go_simp;rfl))
        (case hp=>exact Reps.one (fk_ HC42.out HL42.out) (Reps.one (fk_ HC45.out HL45.out) (Reps.one (fk_ HC48.out HL48.out) (Reps.one (fk_ HC51.out HL51.out) (Reps.one (fk_ HC54.out HL54.out) (Reps.one (fk_ HC57.out HL57.out) (Reps.one (fk_ HC60.out HL60.out) (Reps.one (fk_ HCv.out HLv.out) (Reps.one (fk_ HC64.out HL64.out) (Reps.one (fk_ HC67.out HL67.out) (Reps.one (fk_ (Kd.jj0 g10 HBr.out) l10) (Reps.none _ _))))))))))))
        intro v_ wq hn hb hg_ hnew_
        clear hg_ hnew_
        rw [← hys] at hn
        have n0_:=mk0 (jj1 HBr.out HBr.out.size hb)
        have n1_:=mk0 (jj3 BK.out hb)
        have n2_:=mk0 (Kd.jk8 HOc.out hb)
        have n3_:=mk0 (Kd.jj0 HCv.out hb)
        have n4_:=mk0 (Kd.jj0 HC42.out hb)
        have n5_:=mk0 (Kd.jj0 HC45.out hb)
        have n6_:=mk0 (Kd.jj0 HC48.out hb)
        have n7_:=mk0 (Kd.jj0 HC51.out hb)
        have n8_:=mk0 (Kd.jj0 HC54.out hb)
        have n9_:=mk0 (Kd.jj0 HC57.out hb)
        have n10_:=mk0 (Kd.jj0 HC60.out hb)
        have n11_:=mk0 (Kd.jj0 HC64.out hb)
        have n12_:=mk0 (Kd.jj0 HC67.out hb)
        clear HBr BK HOc HCv HC42 HC45 HC48 HC51 HC54 HC57 HC60 HC64 HC67
        have HBr:=n0_
        have BK:=n1_
        have HOc:=n2_
        have HCv:=n3_
        have HC42:=n4_
        have HC45:=n5_
        have HC48:=n6_
        have HC51:=n7_
        have HC54:=n8_
        have HC57:=n9_
        have HC60:=n10_
        have HC64:=n11_
        have HC67:=n12_
        clear n0_ n1_ n2_ n3_ n4_ n5_ n6_ n7_ n8_ n9_ n10_ n11_ n12_
        obtain ⟨Rz,rz,ex_⟩:=Kd.N_slice hn
        subst ex_
        have HCz:=mk0 (Kd.N_reads' hn).2.2
        clear hn hb
        have HF:=mk0 (show ys.flatten=bMessage x from by rw [hys];rw [bMessage_eq,HA2.out];simp)
        have HY:=mk0 (show ys.length < 1000000 from by rw [hys];simp)
        clear hys
        refine hK.out _ _ ⟨bzC BK 0,bzC BK 1,bzC BK 2,bzC BK 3,bzC BK 4,bzC BK 5,bzC BK 7,bzC BK 8,bzC BK 9,bzC BK 10⟩ (fun hHeld=>?_)
        clear hK K
        refine nzS (some 70) ?_
        refine one_ (i:=33) (N:=some 71) (bzs 37 17179869183) rfl rfl (jk2 HT_.out (by kernel_rfl)) (by decide) (fun K hK=>?_)
        refine gzO Try.func23 #[.slice Rz ys.length rz] ?_
        refine (all_c ys Rz rz _ HCz.out (by rw [HF.out];have:=HZ.out;omega) HY.out).mono ?_
        rintro e wq ⟨v_,rfl,ho,hb⟩
        refine ⟨_,rfl,?_⟩
        have n0_:=mk0 (jj1 HBr.out HBr.out.size hb)
        have n1_:=mk0 (jj3 BK.out hb)
        have n2_:=mk0 (Kd.jk8 HOc.out hb)
        have n3_:=mk0 (Kd.jj0 HCv.out hb)
        have n4_:=mk0 (Kd.jj0 HC42.out hb)
        have n5_:=mk0 (Kd.jj0 HC45.out hb)
        have n6_:=mk0 (Kd.jj0 HC48.out hb)
        have n7_:=mk0 (Kd.jj0 HC51.out hb)
        have n8_:=mk0 (Kd.jj0 HC54.out hb)
        have n9_:=mk0 (Kd.jj0 HC57.out hb)
        have n10_:=mk0 (Kd.jj0 HC60.out hb)
        have n11_:=mk0 (Kd.jj0 HC64.out hb)
        have n12_:=mk0 (Kd.jj0 HC67.out hb)
        have n13_:=mk0 (Kd.jj0 HCz.out hb)
        clear HBr BK HOc HCv HC42 HC45 HC48 HC51 HC54 HC57 HC60 HC64 HC67 HCz
        have HBr:=n0_
        have BK:=n1_
        have HOc:=n2_
        have HCv:=n3_
        have HC42:=n4_
        have HC45:=n5_
        have HC48:=n6_
        have HC51:=n7_
        have HC54:=n8_
        have HC57:=n9_
        have HC60:=n10_
        have HC64:=n11_
        have HC67:=n12_
        have HCz:=n13_
        clear n0_ n1_ n2_ n3_ n4_ n5_ n6_ n7_ n8_ n9_ n10_ n11_ n12_ n13_
        rw [HF.out] at ho
        obtain ⟨R71,r71,ex_⟩:=Kd.jk4 ho
        subst ex_
        have HC71:=mk0 (Kd.jj7 ho).2.2
        have HL71:=mk0 (Kd.jj7 ho).2.1
        clear ho hb
        refine hK.out _ _ ⟨bzC BK 0,bzC BK 1,bzC BK 2,bzC BK 3,bzC BK 4,bzC BK 5,bzC BK 7,bzC BK 8,bzC BK 9,bzC BK 10⟩ (fun hHeld=>?_)
        clear hK K
        refine nzS (some 71) ?_
        refine one_ (i:=34) (N:=some 72) (bzs 37 34359738367) rfl rfl (jk2 HT_.out (by kernel_rfl)) (by decide) (fun K hK=>?_)
        refine gzO Try.func51 #[.int .i64 num,.slice R71 (bMessage x).length r71] ?_
        refine (part_c num (bMessage x) R71 r71 _ HN.out HZ.out HC71.out HL71.out).mono ?_
        rintro e wq ⟨v_,rfl,ho,hb⟩
        refine ⟨_,rfl,?_⟩
        have n0_:=mk0 (jj1 HBr.out HBr.out.size hb)
        have n1_:=mk0 (jj3 BK.out hb)
        have n2_:=mk0 (Kd.jk8 HOc.out hb)
        have n3_:=mk0 (Kd.jj0 HCv.out hb)
        have n4_:=mk0 (Kd.jj0 HC42.out hb)
        have n5_:=mk0 (Kd.jj0 HC45.out hb)
        have n6_:=mk0 (Kd.jj0 HC48.out hb)
        have n7_:=mk0 (Kd.jj0 HC51.out hb)
        have n8_:=mk0 (Kd.jj0 HC54.out hb)
        have n9_:=mk0 (Kd.jj0 HC57.out hb)
        have n10_:=mk0 (Kd.jj0 HC60.out hb)
        have n11_:=mk0 (Kd.jj0 HC64.out hb)
        have n12_:=mk0 (Kd.jj0 HC67.out hb)
        have n13_:=mk0 (Kd.jj0 HCz.out hb)
        have n14_:=mk0 (Kd.jj0 HC71.out hb)
        clear HBr BK HOc HCv HC42 HC45 HC48 HC51 HC54 HC57 HC60 HC64 HC67 HCz HC71
        have HBr:=n0_
        have BK:=n1_
        have HOc:=n2_
        have HCv:=n3_
        have HC42:=n4_
        have HC45:=n5_
        have HC48:=n6_
        have HC51:=n7_
        have HC54:=n8_
        have HC57:=n9_
        have HC60:=n10_
        have HC64:=n11_
        have HC67:=n12_
        have HCz:=n13_
        have HC71:=n14_
        clear n0_ n1_ n2_ n3_ n4_ n5_ n6_ n7_ n8_ n9_ n10_ n11_ n12_ n13_ n14_
        obtain ⟨R72,r72,ex_⟩:=Kd.jk4 ho
        subst ex_
        have HC72:=mk0 (Kd.jj7 ho).2.2
        have HL72:=mk0 (Kd.jj7 ho).2.1
        clear ho hb
        refine hK.out _ _ ⟨bzC BK 0,bzC BK 1,bzC BK 2,bzC BK 3,bzC BK 4,bzC BK 5,bzC BK 7,bzC BK 8,bzC BK 9,bzC BK 10⟩ (fun hHeld=>?_)
        clear hK K
        refine nzS (some 72) ?_
        refine one_ (i:=35) (N:=some 73) (bzs 37 68719476735) rfl rfl (jk2 HT_.out (by kernel_rfl)) (by decide) (fun K hK=>?_)
        refine Kd.R_append_rows_step (Kd.int .u8) (w0:=w) w.heap.size (by rfl) (.tmp 38) (.tmp 72) 28 5 (.int .u8 0) 1 rfl Try.underlying28 GUndescBack.info5 rfl (by decide) (by omega) (.slice Av acc.length cv) acc (fB num (bMessage x)) _ _ _ (fun _=>True) (fun _=>False) rfl rfl HOc.out HC72.out (fun _ _ h=>h) (fun _ h=>h.elim) (fun _ _=>trivial) (jj1 HBo.out HBo.out.size HBr.out) (jj1 HBo.out HBo.out.size HBr.out).size (by have:=HLo.out;omega) ?_
        intro v1 wq ho hb hg hat
        have HOn:=mk0 ho
        have HBn:=mk0 hb
        have n_:=mk0 (blk_grown BK.out hg (Kd.R_ne HOc.out BK.out (by decide)))
        clear BK
        have BK:=n_
        clear n_
        clear ho hb hg hat
        clear HBr
        clear HOc
        clear HCv
        clear HC42
        clear HC45
        clear HC48
        clear HC51
        clear HC54
        clear HC57
        clear HC60
        clear HC64
        clear HC67
        clear HCz
        clear HC71
        clear HC72
        refine hK.out _ _ ⟨bzC BK 0,bzC BK 1,bzC BK 2,bzC BK 3,bzC BK 4,bzC BK 5,bzC BK 7,bzC BK 8,bzC BK 9,bzC BK 10⟩ (fun hHeld=>?_)
        clear hK K
        refine nzS (some 73) ?_
        refine pzS 36 (some 5) (bzs 37 137438953471) HT_ ?_
        refine done_ (done_of HT_.out (by kernel_rfl)) ?_
        go_wp2
        go_roundg k1
        case measure=>exact Nat.lt_succ_self k1
        case rel=>exact ⟨i+1,(by first|rfl|(rw [hwp1])|(simp [hwp1];done)),⟨(Nat.add_right_comm i 1 k1).trans HI.out⟩,⟨by rw [HTo.out];exact HOn.out⟩,⟨HBn.out⟩⟩
  · have d0:=dec_ge hlt
    rw [List.take_of_length_le (Nat.le_of_not_lt hlt)] at hacc
    have HE:=mk0 hacc
    clear hacc
    go_wp2
    go_ret
    exact ⟨_,rfl,by rw [HE.out];exact HO.out,HB.out⟩
theorem cm_all:∀ x:S76,CM x:=by
 refine S76.ind fun x ih g hb num hn A c W hC=>?_
 rw [good76] at g
 rw [bk76_eq] at hb
 exact messages1_c x.f2 g.2.2.1.2 ih (by omega) num hn A c W hC
theorem messages_c (l:List S76) (hg:∀ y∈l,good76 y) (hb:(l.map bk76).sum≤4294967296) (num:Int) (hn:1≤num∧num≤536870911) (A0:Option Addr) (c0:Nat) (w:World) (hC:Kd.C k76 w A0 l.length l) :
 Calls Try.prog 26 #[.int .i64 num,.slice A0 l.length c0] w fun e w'=>Ret_ (l.flatMap fun y=>fB num (bMessage y)) w e w':=messages1_c l hg (fun y _=>cm_all y) hb num hn A0 c0 w hC
end Go.Proofs.Ytheoafenehckbaa.R1
