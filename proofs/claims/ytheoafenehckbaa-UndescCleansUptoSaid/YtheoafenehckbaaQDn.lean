/- undesc's cleanMessage calls itself. -/
import Derived.Test.YtheoafenehckbaaQDm
import Derived.Test.YtheoafenehckbaaQSh
import Derived.LoopN
import Derived.RegionTactic
namespace Go.Proofs.Ytheoafenehckbaa.Ur
open Go.RowKit GUndescBack YtheoafenehckbaaW.PrintWords YtheoafenehckbaaW.PrintLast YtheoafenehckbaaW.PrintMore Rk
set_option linter.unusedVariables false
set_option linter.unusedSimpArgs false
theorem bk115_pos (y:S115):1≤bk115 y:=by unfold bk115;omega
theorem eachN0_c (a:Int) (pa:Nat) (l:List S76) (okp:Nat→Prop) (w:World) (hpa:w.heap[pa]?=some (.cells #[.int .i64 a] 3 (0,0))) :
 Calls Try.prog 41 #[.slice none 0 0,.func (.func 68) #[] #[.pointer (some ⟨pa,0,none⟩)]] w fun e w'=>∃ A c,e = .returned (.slice A (clMs 0 l).length c)∧(clMs 0 l).length≤c∧Kd.F k76 w' (okN okp w.heap.size) A (clMs 0 l).length (clMs 0 l)∧Below w.heap.size w w':=
 eachM68_c 0 a pa [] (Nat.zero_le _) okp none 0 w (Kd.F_nil _ _ _) hpa (fun x hx=>by cases hx)
theorem eachN1_c (n:Nat) (a:Int) (pa:Nat) (h:ClnM n (wrap64 (a+1))) (l:List S76) (hb:(l.map bk76).sum≤4294967296) (okp:Nat→Prop) (A0:Option Addr) (c0:Nat) (w:World) (HF:Kd.F k76 w okp A0 l.length l) (hpa:w.heap[pa]?=some (.cells #[.int .i64 a] 3 (0,0))) :
 Calls Try.prog 41 #[.slice A0 l.length c0,.func (.func 68) #[] #[.pointer (some ⟨pa,0,none⟩)]] w fun e w'=>∃ A c,e = .returned (.slice A (clMs (n+1) l).length c)∧(clMs (n+1) l).length≤c∧Kd.F k76 w' (okN okp w.heap.size) A (clMs (n+1) l).length (clMs (n+1) l)∧Below w.heap.size w w':=by
 rw [clMs_succ,List.length_map]
 exact eachM68_c n a pa l hb okp A0 c0 w HF hpa (fun x _ hb okc w cs hx hp=>clo68_c n a pa h x hb okc w cs hx hp)
def clnMsg_c.T2:Bool × List (List Nat × List Nat):=(true,[([],[]),([0],[0]),([1],[1]),([],[]),([3],[3]),([4,2],[4]),([],[]),([6],[6]),([7,5],[7]),([0,1,2,3,4,6,7],[]),([9,2,8,0,1,2,3,4,6,7],[2,9]),([0,1,2,3,4,5,6,7,9,10],[]),([11,5,10,0,1,2,3,4,5,6,7,9,10],[5,11]),([0,1,2,3,4,5,6,7,8,9,10,11,12],[]),([13,8,12,0,1,2,3,4,5,6,7,8,9,10,11,12],[8,13])])
def clnMsg_c.B2:List Nat:=[0,1,3,0,8,31,0,64,255,223,1023,2047,4095,8191,16383]
theorem clnMsg_c.tab2:rtab .any (opsOf Try.f43 2)=clnMsg_c.T2:=by kernel_rfl
theorem clnMsg_c.bits2:waitsOk clnMsg_c.T2.2 clnMsg_c.B2=true:=by kernel_rfl
def clnMsg_c.T3:Bool × List (List Nat × List Nat):=(true,[([],[]),([0],[0]),([1],[1]),([],[]),([3],[3]),([4,2],[4]),([],[]),([6],[6]),([7,5],[7]),([0,1,2,3,4,6,7],[]),([9,2,8,0,1,2,3,4,6,7],[2,9]),([0,1,2,3,4,5,6,7,9,10],[]),([11,5,10,0,1,2,3,4,5,6,7,9,10],[5,11]),([0,1,2,3,4,5,6,7,8,9,10,11,12],[]),([13,8,12,0,1,2,3,4,5,6,7,8,9,10,11,12],[8,13])])
def clnMsg_c.B3:List Nat:=[0,1,3,0,8,31,0,64,255,223,1023,2047,4095,8191,16383]
theorem clnMsg_c.tab3:rtab .any (opsOf Try.f43 3)=clnMsg_c.T3:=by kernel_rfl
theorem clnMsg_c.bits3:waitsOk clnMsg_c.T3.2 clnMsg_c.B3=true:=by kernel_rfl
set_option maxHeartbeats 8000000 in
set_option maxRecDepth 100000 in
theorem clnMsg_c (n:Nat) (a:Int) (h0:0≤a) (ha:a+n=64) (hI:∀ m,n=m+1→ClnM m (wrap64 (a+1))):ClnM n a:=by
 intro x hbk okc w cs hx
 have HA:=mk0 ha
 have hIH:=mk0 hI
 obtain ⟨A1,c1,A2,c2,A3,c3,A4,c4,A5,c5,A6,c6,A7,c7,A8,c8,A9,c9,A10,c10,rfl,l1,g1,l2,g2,l3,g3,l4,g4,l5,g5,l6,g6,l7,g7,l8,g8,l9,g9,l10,g10⟩:=k76_openF hx
 have HL:=mk0 (bnMessage hbk)
 clear hbk h0 ha hI
 go_enter Try.func43,Try.ntmps43
 go_wp2_with (first|((with_reducible refine jk0 (N:=2) rfl ?_);refine bzX 2 #[.string x.f0,.slice A1 x.f1.length c1,.slice A2 x.f2.length c2,.slice A3 x.f3.length c3,.slice A4 x.f4.length c4,.slice A5 x.f5.length c5,.slice A6 x.f6.length c6,.slice A7 x.f7.length c7,.slice A8 x.f8.length c8,.slice A9 x.f9.length c9,.slice A10 x.f10.length c10] 76 ?_;intro gx hgx wa hbox hb;have HB:=mk0 hb;have BX0:=mk0 hbox;have HGX:=mk0 (Nat.le_of_eq hgx.symm);clear hgx hbox hb)|((with_reducible refine jk0 (N:=3) rfl ?_);refine bzX 3 #[.int .i64 a] 3 ?_;intro ga hgx wi hbox hb;have n0_:=mk0 (jj1 HB.out HB.out.size hb);have n1_:=mk0 (jj3 BX0.out hb);have BA0:=mk0 hbox;have HAN:=mk0 (show ga≠gx from fun e=>by have:=blk_lt BX0.out;rw [hgx] at e;omega);clear HB BX0 hgx hbox hb;have HB:=n0_;have BX0:=n1_;clear n0_ n1_)|((with_reducible refine jk0 (N:=4) rfl ?_);refine bzX 4 #[.string (⟨#[]⟩:ByteArray),.slice none 0 0,.slice none 0 0,.slice none 0 0,.slice none 0 0,.slice none 0 0,.slice none 0 0,.slice none 0 0,.slice none 0 0,.slice none 0 0,.slice none 0 0] 76 ?_;intro gr hgx w0 hbox hb;have HB1:=mk0 (jj1 HB.out HB.out.size hb);have BX:=mk0 (Bx.new (jj3 BX0.out hb));have B2:=mk0 hbox;have HG2:=mk0 (show w.heap.size≤gr from hgx ▸ HB.out.size);have HNE:=mk0 (show gr≠gx from fun e=>by have:=blk_lt BX0.out;rw [hgx] at e;omega);have BA:=mk0 (jj3 BA0.out hb);clear BA0;clear HB BX0 hgx hbox hb;have HB:=HB1;clear HB1;have k9_:w0.cell? ⟨gx,9,none⟩=some (.slice A9 x.f9.length c9:Value):=BX.out.cell 9 rfl))
 obtain ⟨n1,hn1⟩:∃ z,z=w0.heap.size:=⟨_,rfl⟩
 have HNX:Aside0 (∀ k,okB okc w.heap.size n1 k→k≠gx):=⟨okB_ne HGX.out (by rw [hn1];exact BX.out.glt)⟩
 have HN2:Aside0 (∀ k,okB okc w.heap.size n1 k→k≠gr):=⟨okB_ne HG2.out (by rw [hn1];exact blk_lt B2.out)⟩
 have HNL:=mk0 (show w.heap.size≤n1 from by rw [hn1];exact Nat.le_trans HG2.out (Nat.le_of_lt (blk_lt B2.out)))
 have HFR:Aside0 (∀ k,w0.heap.size≤k→okB okc w.heap.size n1 k):=⟨fun k hk=>okB_fr (by rw [hn1];exact hk)⟩
 have G1:=mk0 (okB_of (n1:=n1) g1 rfl HB.out)
 have G2:=mk0 (okB_of (n1:=n1) g2 rfl HB.out)
 have G3:=mk0 (okB_of (n1:=n1) g3 rfl HB.out)
 have G4:=mk0 (okB_of (n1:=n1) g4 rfl HB.out)
 have G5:=mk0 (okB_of (n1:=n1) g5 rfl HB.out)
 have G6:=mk0 (okB_of (n1:=n1) g6 rfl HB.out)
 have G7:=mk0 (okB_of (n1:=n1) g7 rfl HB.out)
 have G8:=mk0 (okB_of (n1:=n1) g8 rfl HB.out)
 have G9:=mk0 (okB_of (n1:=n1) g9 rfl HB.out)
 have G10:=mk0 (okB_of (n1:=n1) g10 rfl HB.out)
 clear hn1 g1 g2 g3 g4 g5 g6 g7 g8 g9 g10 k9_
 refine (clone8_c x.f9 HL.out.2.2.2.2.2.2.2.2.1 _ A9 c9 w0 (BX.out.F HNX.out G9.out)).mono ?_
 rintro e w1 ⟨F9,e9,rfl,he,hF,hb⟩
 have HFn:=mk0 (BX.out.Fcall (ok:=okB okc w.heap.size n1) HFR.out hF)
 replace HB:=mk0 (jj1 HB.out HB.out.size hb)
 replace BX:=mk0 (BX.out.below hb)
 have HF9:=HFn
 have HE9:=mk0 he
 clear hF hb he HFn
 go_wp2_with (first|((with_reducible refine jjz (t:=28) (p:=8) rfl ?_);refine BX.out.event 9 (.slice F9 x.f9.length e9) #[.string x.f0,.slice A1 x.f1.length c1,.slice A2 x.f2.length c2,.slice A3 x.f3.length c3,.slice A4 x.f4.length c4,.slice A5 x.f5.length c5,.slice A6 x.f6.length c6,.slice A7 x.f7.length c7,.slice A8 x.f8.length c8,.slice F9 x.f9.length e9,.slice A10 x.f10.length c10] ?_;intro w2 hX hg hB;replace HB:=mk0 (hB _ _ HGX.out HB.out);replace BX:=mk0 (hX);replace HF9:=mk0 (jj8 HNX.out HF9.out hg);clear hX hg hB)|((with_reducible refine jjz (t:=28) (p:=9) rfl ?_);refine BX.out.event 10 (.slice none 0 0) #[.string x.f0,.slice A1 x.f1.length c1,.slice A2 x.f2.length c2,.slice A3 x.f3.length c3,.slice A4 x.f4.length c4,.slice A5 x.f5.length c5,.slice A6 x.f6.length c6,.slice A7 x.f7.length c7,.slice A8 x.f8.length c8,.slice F9 x.f9.length e9,.slice none 0 0] ?_;intro w3 hX hg hB;replace HB:=mk0 (hB _ _ HGX.out HB.out);replace BX:=mk0 (hX);replace HF9:=mk0 (jj8 HNX.out HF9.out hg);clear hX hg hB))
 refine start_ (n:=15) (S:=fun w'=>w'.cell? ⟨gx,1,none⟩=some (.slice A1 x.f1.length c1)∧w'.cell? ⟨gx,5,none⟩=some (.slice A5 x.f5.length c5)∧w'.cell? ⟨gx,3,none⟩=some (.slice A3 x.f3.length c3)) (ds:=[10,12,14]) (bzs 15 0) (by kernel_rfl) rfl rfl ⟨(BX.out.cell 1 rfl),(BX.out.cell 5 rfl),(BX.out.cell 3 rfl)⟩ (fun hHeld=>?_)
 refine with_tabW clnMsg_c.tab2 clnMsg_c.bits2 (fun HT_ HW_=>?_)
 replace HB:=mk0 (jj2 HB.out)
 replace BX:=mk0 (BX.out.below (jj2 (Below.refl _ _)))
 replace HF9:=mk0 (jk3 HF9.out (jj2 (Below.refl _ _)))
 generalize w3.drew=w4 at HB BX HF9 hHeld ⊢
 refine pzS 0 (some 10) (bzs 15 1) HT_ ?_
 refine pzS 3 (some 13) (bzs 15 9) HT_ ?_
 refine pzS 6 (some 16) (bzs 15 73) HT_ ?_
 refine tzS 1 (some 11) (bzs 15 75) HT_ HW_ hHeld ?_
 refine tzS 4 (some 14) (bzs 15 91) HT_ HW_ hHeld ?_
 refine tzS 7 (some 17) (bzs 15 219) HT_ HW_ hHeld ?_
 refine one_ (i:=2) (N:=some 12) (bzs 15 223) rfl rfl (jk2 HT_.out (by kernel_rfl)) (by decide) (fun K hK=>?_)
 refine gzO Try.func48 #[.slice A1 x.f1.length c1,.func (.func 49) #[] #[]] ?_
 refine (eachField_c x.f1 HL.out.1 _ A1 c1 w4 (BX.out.F HNX.out G1.out)).mono ?_
 rintro e w5 ⟨F1,e1,rfl,he,hF,hb⟩
 refine ⟨_,rfl,?_⟩
 have HFn:=mk0 (BX.out.Fcall (ok:=okB okc w.heap.size n1) HFR.out hF)
 replace HB:=mk0 (jj1 HB.out HB.out.size hb)
 replace BX:=mk0 (BX.out.below hb)
 replace HF9:=mk0 (jk3 HF9.out hb)
 have HF1:=HFn
 have HE1:=mk0 he
 clear hF hb he HFn
 refine hK.out _ _ ⟨(BX.out.cell 1 rfl),(BX.out.cell 5 rfl),(BX.out.cell 3 rfl)⟩ (fun hHeld=>?_)
 clear hK K
 refine nzS (some 12) ?_
 refine pzS 9 (some 19) (bzs 15 735) HT_ ?_
 refine one_ (i:=5) (N:=some 15) (bzs 15 767) rfl rfl (jk2 HT_.out (by kernel_rfl)) (by decide) (fun K hK=>?_)
 refine gzO Try.func48 #[.slice A5 x.f5.length c5,.func (.func 49) #[] #[]] ?_
 refine (eachField_c x.f5 HL.out.2.2.2.2.1 _ A5 c5 w5 (BX.out.F HNX.out G5.out)).mono ?_
 rintro e w6 ⟨F5,e5,rfl,he,hF,hb⟩
 refine ⟨_,rfl,?_⟩
 have HFn:=mk0 (BX.out.Fcall (ok:=okB okc w.heap.size n1) HFR.out hF)
 replace HB:=mk0 (jj1 HB.out HB.out.size hb)
 replace BX:=mk0 (BX.out.below hb)
 replace HF9:=mk0 (jk3 HF9.out hb)
 replace HF1:=mk0 (jk3 HF1.out hb)
 have HF5:=HFn
 have HE5:=mk0 he
 clear hF hb he HFn
 refine hK.out _ _ ⟨(BX.out.cell 1 rfl),(BX.out.cell 5 rfl),(BX.out.cell 3 rfl)⟩ (fun hHeld=>?_)
 clear hK K
 refine nzS (some 15) ?_
 refine one_ (i:=8) (N:=some 18) (bzs 15 1023) rfl rfl (jk2 HT_.out (by kernel_rfl)) (by decide) (fun K hK=>?_)
 refine gzO Try.func44 #[.slice A3 x.f3.length c3,.func (.func 45) #[] #[]] ?_
 refine (eachEnum_c x.f3 HL.out.2.2.1 _ A3 c3 w6 (BX.out.F HNX.out G3.out)).mono ?_
 rintro e w7 ⟨F3,e3,rfl,he,hF,hb⟩
 refine ⟨_,rfl,?_⟩
 have HFn:=mk0 (BX.out.Fcall (ok:=okB okc w.heap.size n1) HFR.out hF)
 replace HB:=mk0 (jj1 HB.out HB.out.size hb)
 replace BX:=mk0 (BX.out.below hb)
 replace HF9:=mk0 (jk3 HF9.out hb)
 replace HF1:=mk0 (jk3 HF1.out hb)
 replace HF5:=mk0 (jk3 HF5.out hb)
 have HF3:=HFn
 have HE3:=mk0 he
 clear hF hb he HFn
 refine hK.out _ _ ⟨(BX.out.cell 1 rfl),(BX.out.cell 5 rfl),(BX.out.cell 3 rfl)⟩ (fun hHeld=>?_)
 clear hK K
 refine nzS (some 18) ?_
 refine last_ (i:=10) (N:=none) (bzs 15 2047) rfl rfl (jk2 HT_.out (by kernel_rfl)) (by decide) (fun K hK=>?_)
 refine BX.out.estep 1 (.slice F1 x.f1.length e1) #[.string x.f0,.slice F1 x.f1.length e1,.slice A2 x.f2.length c2,.slice A3 x.f3.length c3,.slice A4 x.f4.length c4,.slice A5 x.f5.length c5,.slice A6 x.f6.length c6,.slice A7 x.f7.length c7,.slice A8 x.f8.length c8,.slice F9 x.f9.length e9,.slice none 0 0] ?_
 intro w8 hX hg hB
 replace HB:=mk0 (hB _ _ HGX.out HB.out)
 replace BX:=mk0 (hX)
 replace HF9:=mk0 (jj8 HNX.out HF9.out hg)
 replace HF1:=mk0 (jj8 HNX.out HF1.out hg)
 replace HF5:=mk0 (jj8 HNX.out HF5.out hg)
 replace HF3:=mk0 (jj8 HNX.out HF3.out hg)
 clear hX hg hB
 refine hK.out _ _ ?_
 clear hK K
 refine pzS 11 (some 20) (bzs 15 4095) HT_ ?_
 refine last_ (i:=12) (N:=none) (bzs 15 8191) rfl rfl (jk2 HT_.out (by kernel_rfl)) (by decide) (fun K hK=>?_)
 refine BX.out.estep 5 (.slice F5 x.f5.length e5) #[.string x.f0,.slice F1 x.f1.length e1,.slice A2 x.f2.length c2,.slice A3 x.f3.length c3,.slice A4 x.f4.length c4,.slice F5 x.f5.length e5,.slice A6 x.f6.length c6,.slice A7 x.f7.length c7,.slice A8 x.f8.length c8,.slice F9 x.f9.length e9,.slice none 0 0] ?_
 intro w9 hX hg hB
 replace HB:=mk0 (hB _ _ HGX.out HB.out)
 replace BX:=mk0 (hX)
 replace HF9:=mk0 (jj8 HNX.out HF9.out hg)
 replace HF1:=mk0 (jj8 HNX.out HF1.out hg)
 replace HF5:=mk0 (jj8 HNX.out HF5.out hg)
 replace HF3:=mk0 (jj8 HNX.out HF3.out hg)
 clear hX hg hB
 refine hK.out _ _ ?_
 clear hK K
 refine pzS 13 (some 21) (bzs 15 16383) HT_ ?_
 refine last_ (i:=14) (N:=none) (bzs 15 32767) rfl rfl (jk2 HT_.out (by kernel_rfl)) (by decide) (fun K hK=>?_)
 refine BX.out.estep 3 (.slice F3 x.f3.length e3) #[.string x.f0,.slice F1 x.f1.length e1,.slice A2 x.f2.length c2,.slice F3 x.f3.length e3,.slice A4 x.f4.length c4,.slice F5 x.f5.length e5,.slice A6 x.f6.length c6,.slice A7 x.f7.length c7,.slice A8 x.f8.length c8,.slice F9 x.f9.length e9,.slice none 0 0] ?_
 intro w10 hX hg hB
 replace HB:=mk0 (hB _ _ HGX.out HB.out)
 replace BX:=mk0 (hX)
 replace HF9:=mk0 (jj8 HNX.out HF9.out hg)
 replace HF1:=mk0 (jj8 HNX.out HF1.out hg)
 replace HF5:=mk0 (jj8 HNX.out HF5.out hg)
 replace HF3:=mk0 (jj8 HNX.out HF3.out hg)
 clear hX hg hB
 refine hK.out _ _ ?_
 clear hK K
 refine done_ (done_of HT_.out (by kernel_rfl)) ?_
 go_wp2_with fail
 refine start_ (n:=15) (S:=fun w'=>w'.cell? ⟨gx,4,none⟩=some (.slice A4 x.f4.length c4)∧w'.cell? ⟨gx,7,none⟩=some (.slice A7 x.f7.length c7)∧w'.cell? ⟨gx,8,none⟩=some (.slice A8 x.f8.length c8)) (ds:=[10,12,14]) (bzs 15 0) (by kernel_rfl) rfl rfl ⟨(BX.out.cell 4 rfl),(BX.out.cell 7 rfl),(BX.out.cell 8 rfl)⟩ (fun hHeld=>?_)
 refine with_tabW clnMsg_c.tab3 clnMsg_c.bits3 (fun HT_ HW_=>?_)
 replace HB:=mk0 (jj2 HB.out)
 replace BX:=mk0 (BX.out.below (jj2 (Below.refl _ _)))
 replace HF9:=mk0 (jk3 HF9.out (jj2 (Below.refl _ _)))
 replace HF1:=mk0 (jk3 HF1.out (jj2 (Below.refl _ _)))
 replace HF5:=mk0 (jk3 HF5.out (jj2 (Below.refl _ _)))
 replace HF3:=mk0 (jk3 HF3.out (jj2 (Below.refl _ _)))
 generalize w10.drew=w11 at HB BX HF9 HF1 HF5 HF3 hHeld ⊢
 refine pzS 0 (some 22) (bzs 15 1) HT_ ?_
 refine pzS 3 (some 25) (bzs 15 9) HT_ ?_
 refine pzS 6 (some 28) (bzs 15 73) HT_ ?_
 refine tzS 1 (some 23) (bzs 15 75) HT_ HW_ hHeld ?_
 refine tzS 4 (some 26) (bzs 15 91) HT_ HW_ hHeld ?_
 refine tzS 7 (some 29) (bzs 15 219) HT_ HW_ hHeld ?_
 refine one_ (i:=2) (N:=some 24) (bzs 15 223) rfl rfl (jk2 HT_.out (by kernel_rfl)) (by decide) (fun K hK=>?_)
 refine gzO Try.func65 #[.slice A4 x.f4.length c4] ?_
 refine (cloneR_c x.f4 (Nat.le_trans (lensum bk115 bk115_pos _) HL.out.2.2.2.1) _ A4 c4 w11 (BX.out.F HNX.out G4.out)).mono ?_
 rintro e w12 ⟨F4,e4,rfl,he,hF,hb⟩
 refine ⟨_,rfl,?_⟩
 have HFn:=mk0 (BX.out.Fcall (ok:=okB okc w.heap.size n1) HFR.out hF)
 replace HB:=mk0 (jj1 HB.out HB.out.size hb)
 replace BX:=mk0 (BX.out.below hb)
 replace HF9:=mk0 (jk3 HF9.out hb)
 replace HF1:=mk0 (jk3 HF1.out hb)
 replace HF5:=mk0 (jk3 HF5.out hb)
 replace HF3:=mk0 (jk3 HF3.out hb)
 have HF4:=HFn
 have HE4:=mk0 he
 clear hF hb he HFn
 refine hK.out _ _ ⟨(BX.out.cell 4 rfl),(BX.out.cell 7 rfl),(BX.out.cell 8 rfl)⟩ (fun hHeld=>?_)
 clear hK K
 refine nzS (some 24) ?_
 refine pzS 9 (some 31) (bzs 15 735) HT_ ?_
 refine one_ (i:=5) (N:=some 27) (bzs 15 767) rfl rfl (jk2 HT_.out (by kernel_rfl)) (by decide) (fun K hK=>?_)
 refine gzO Try.func65 #[.slice A7 x.f7.length c7] ?_
 refine (cloneR_c x.f7 (Nat.le_trans (lensum bk115 bk115_pos _) HL.out.2.2.2.2.2.2.1) _ A7 c7 w12 (BX.out.F HNX.out G7.out)).mono ?_
 rintro e w13 ⟨F7,e7,rfl,he,hF,hb⟩
 refine ⟨_,rfl,?_⟩
 have HFn:=mk0 (BX.out.Fcall (ok:=okB okc w.heap.size n1) HFR.out hF)
 replace HB:=mk0 (jj1 HB.out HB.out.size hb)
 replace BX:=mk0 (BX.out.below hb)
 replace HF9:=mk0 (jk3 HF9.out hb)
 replace HF1:=mk0 (jk3 HF1.out hb)
 replace HF5:=mk0 (jk3 HF5.out hb)
 replace HF3:=mk0 (jk3 HF3.out hb)
 replace HF4:=mk0 (jk3 HF4.out hb)
 have HF7:=HFn
 have HE7:=mk0 he
 clear hF hb he HFn
 refine hK.out _ _ ⟨(BX.out.cell 4 rfl),(BX.out.cell 7 rfl),(BX.out.cell 8 rfl)⟩ (fun hHeld=>?_)
 clear hK K
 refine nzS (some 27) ?_
 refine one_ (i:=8) (N:=some 30) (bzs 15 1023) rfl rfl (jk2 HT_.out (by kernel_rfl)) (by decide) (fun K hK=>?_)
 refine gzO Try.func39 #[.slice A8 x.f8.length c8] ?_
 refine (cloneS_c x.f8 HL.out.2.2.2.2.2.2.2.1 _ A8 c8 w13 (BX.out.F HNX.out G8.out)).mono ?_
 rintro e w14 ⟨F8,e8,rfl,he,hF,hb⟩
 refine ⟨_,rfl,?_⟩
 have HFn:=mk0 (BX.out.Fcall (ok:=okB okc w.heap.size n1) HFR.out hF)
 replace HB:=mk0 (jj1 HB.out HB.out.size hb)
 replace BX:=mk0 (BX.out.below hb)
 replace HF9:=mk0 (jk3 HF9.out hb)
 replace HF1:=mk0 (jk3 HF1.out hb)
 replace HF5:=mk0 (jk3 HF5.out hb)
 replace HF3:=mk0 (jk3 HF3.out hb)
 replace HF4:=mk0 (jk3 HF4.out hb)
 replace HF7:=mk0 (jk3 HF7.out hb)
 have HF8:=HFn
 have HE8:=mk0 he
 clear hF hb he HFn
 refine hK.out _ _ ⟨(BX.out.cell 4 rfl),(BX.out.cell 7 rfl),(BX.out.cell 8 rfl)⟩ (fun hHeld=>?_)
 clear hK K
 refine nzS (some 30) ?_
 refine last_ (i:=10) (N:=none) (bzs 15 2047) rfl rfl (jk2 HT_.out (by kernel_rfl)) (by decide) (fun K hK=>?_)
 refine BX.out.estep 4 (.slice F4 x.f4.length e4) #[.string x.f0,.slice F1 x.f1.length e1,.slice A2 x.f2.length c2,.slice F3 x.f3.length e3,.slice F4 x.f4.length e4,.slice F5 x.f5.length e5,.slice A6 x.f6.length c6,.slice A7 x.f7.length c7,.slice A8 x.f8.length c8,.slice F9 x.f9.length e9,.slice none 0 0] ?_
 intro w15 hX hg hB
 replace HB:=mk0 (hB _ _ HGX.out HB.out)
 replace BX:=mk0 (hX)
 replace HF9:=mk0 (jj8 HNX.out HF9.out hg)
 replace HF1:=mk0 (jj8 HNX.out HF1.out hg)
 replace HF5:=mk0 (jj8 HNX.out HF5.out hg)
 replace HF3:=mk0 (jj8 HNX.out HF3.out hg)
 replace HF4:=mk0 (jj8 HNX.out HF4.out hg)
 replace HF7:=mk0 (jj8 HNX.out HF7.out hg)
 replace HF8:=mk0 (jj8 HNX.out HF8.out hg)
 clear hX hg hB
 refine hK.out _ _ ?_
 clear hK K
 refine pzS 11 (some 32) (bzs 15 4095) HT_ ?_
 refine last_ (i:=12) (N:=none) (bzs 15 8191) rfl rfl (jk2 HT_.out (by kernel_rfl)) (by decide) (fun K hK=>?_)
 refine BX.out.estep 7 (.slice F7 x.f7.length e7) #[.string x.f0,.slice F1 x.f1.length e1,.slice A2 x.f2.length c2,.slice F3 x.f3.length e3,.slice F4 x.f4.length e4,.slice F5 x.f5.length e5,.slice A6 x.f6.length c6,.slice F7 x.f7.length e7,.slice A8 x.f8.length c8,.slice F9 x.f9.length e9,.slice none 0 0] ?_
 intro w16 hX hg hB
 replace HB:=mk0 (hB _ _ HGX.out HB.out)
 replace BX:=mk0 (hX)
 replace HF9:=mk0 (jj8 HNX.out HF9.out hg)
 replace HF1:=mk0 (jj8 HNX.out HF1.out hg)
 replace HF5:=mk0 (jj8 HNX.out HF5.out hg)
 replace HF3:=mk0 (jj8 HNX.out HF3.out hg)
 replace HF4:=mk0 (jj8 HNX.out HF4.out hg)
 replace HF7:=mk0 (jj8 HNX.out HF7.out hg)
 replace HF8:=mk0 (jj8 HNX.out HF8.out hg)
 clear hX hg hB
 refine hK.out _ _ ?_
 clear hK K
 refine pzS 13 (some 33) (bzs 15 16383) HT_ ?_
 refine last_ (i:=14) (N:=none) (bzs 15 32767) rfl rfl (jk2 HT_.out (by kernel_rfl)) (by decide) (fun K hK=>?_)
 refine BX.out.estep 8 (.slice F8 x.f8.length e8) #[.string x.f0,.slice F1 x.f1.length e1,.slice A2 x.f2.length c2,.slice F3 x.f3.length e3,.slice F4 x.f4.length e4,.slice F5 x.f5.length e5,.slice A6 x.f6.length c6,.slice F7 x.f7.length e7,.slice F8 x.f8.length e8,.slice F9 x.f9.length e9,.slice none 0 0] ?_
 intro w17 hX hg hB
 replace HB:=mk0 (hB _ _ HGX.out HB.out)
 replace BX:=mk0 (hX)
 replace HF9:=mk0 (jj8 HNX.out HF9.out hg)
 replace HF1:=mk0 (jj8 HNX.out HF1.out hg)
 replace HF5:=mk0 (jj8 HNX.out HF5.out hg)
 replace HF3:=mk0 (jj8 HNX.out HF3.out hg)
 replace HF4:=mk0 (jj8 HNX.out HF4.out hg)
 replace HF7:=mk0 (jj8 HNX.out HF7.out hg)
 replace HF8:=mk0 (jj8 HNX.out HF8.out hg)
 clear hX hg hB
 refine hK.out _ _ ?_
 clear hK K
 refine done_ (done_of HT_.out (by kernel_rfl)) ?_
 have k6_:w17.cell? ⟨gx,6,none⟩=some (.slice A6 x.f6.length c6:Value):=BX.out.cell 6 rfl
 go_wp2_with fail
 clear k6_
 refine (eachOneof_c x.f6 HL.out.2.2.2.2.2.1 _ A6 c6 w17 (BX.out.F HNX.out G6.out)).mono ?_
 rintro e w18 ⟨F6,e6,rfl,he,hF,hb⟩
 have HFn:=mk0 (BX.out.Fcall (ok:=okB okc w.heap.size n1) HFR.out hF)
 replace HB:=mk0 (jj1 HB.out HB.out.size hb)
 replace BX:=mk0 (BX.out.below hb)
 replace HF9:=mk0 (jk3 HF9.out hb)
 replace HF1:=mk0 (jk3 HF1.out hb)
 replace HF5:=mk0 (jk3 HF5.out hb)
 replace HF3:=mk0 (jk3 HF3.out hb)
 replace HF4:=mk0 (jk3 HF4.out hb)
 replace HF7:=mk0 (jk3 HF7.out hb)
 replace HF8:=mk0 (jk3 HF8.out hb)
 have HF6:=HFn
 have HE6:=mk0 he
 clear hF hb he HFn
 cases n with
 | zero=>
  have HEQ:(a==64)=true:=by rw [beq_iff_eq];have:=HA.out;omega
  go_wp2_with (first|((with_reducible refine jjz (t:=74) (p:=37) rfl ?_);refine BX.out.event 6 (.slice F6 x.f6.length e6) #[.string x.f0,.slice F1 x.f1.length e1,.slice A2 x.f2.length c2,.slice F3 x.f3.length e3,.slice F4 x.f4.length e4,.slice F5 x.f5.length e5,.slice F6 x.f6.length e6,.slice F7 x.f7.length e7,.slice F8 x.f8.length e8,.slice F9 x.f9.length e9,.slice none 0 0] ?_;intro w19 hX hg hB;replace HB:=mk0 (hB _ _ HGX.out HB.out);replace BX:=mk0 (hX);replace HF9:=mk0 (jj8 HNX.out HF9.out hg);replace HF1:=mk0 (jj8 HNX.out HF1.out hg);replace HF5:=mk0 (jj8 HNX.out HF5.out hg);replace HF3:=mk0 (jj8 HNX.out HF3.out hg);replace HF4:=mk0 (jj8 HNX.out HF4.out hg);replace HF7:=mk0 (jj8 HNX.out HF7.out hg);replace HF8:=mk0 (jj8 HNX.out HF8.out hg);replace HF6:=mk0 (jj8 HNX.out HF6.out hg);clear hX hg hB;have ka_:w19.cell? ⟨ga,0,none⟩=some (.int .i64 a:Value):=(blk_cell ((BX.out.touch ga (blk_lt BA.out) HAN.out).trans BA.out) 0).trans rfl)|((with_reducible refine jjz (t:=24) (p:=40) rfl ?_);refine BX.out.event 2 (.slice none 0 0) #[.string x.f0,.slice F1 x.f1.length e1,.slice none 0 0,.slice F3 x.f3.length e3,.slice F4 x.f4.length e4,.slice F5 x.f5.length e5,.slice F6 x.f6.length e6,.slice F7 x.f7.length e7,.slice F8 x.f8.length e8,.slice F9 x.f9.length e9,.slice none 0 0] ?_;intro w20 hX hg hB;replace HB:=mk0 (hB _ _ HGX.out HB.out);replace BX:=mk0 (hX);replace HF9:=mk0 (jj8 HNX.out HF9.out hg);replace HF1:=mk0 (jj8 HNX.out HF1.out hg);replace HF5:=mk0 (jj8 HNX.out HF5.out hg);replace HF3:=mk0 (jj8 HNX.out HF3.out hg);replace HF4:=mk0 (jj8 HNX.out HF4.out hg);replace HF7:=mk0 (jj8 HNX.out HF7.out hg);replace HF8:=mk0 (jj8 HNX.out HF8.out hg);replace HF6:=mk0 (jj8 HNX.out HF6.out hg);clear hX hg hB;have k2_:w20.cell? ⟨gx,2,none⟩=some (.slice none 0 0:Value):=BX.out.cell 2 rfl))
  clear k2_ ka_
  refine (eachN0_c a ga x.f2 (fun k=>okB okc w.heap.size n1 k∧k < w0.heap.size) w20 ((BX.out.touch ga (blk_lt BA.out) HAN.out).trans BA.out)).mono ?_
  rintro e w21 ⟨F2,e2,rfl,he,hF,hb⟩
  have HFn:=mk0 (BX.out.Fcall (ok:=okB okc w.heap.size n1) HFR.out hF)
  replace HB:=mk0 (jj1 HB.out HB.out.size hb)
  replace BX:=mk0 (BX.out.below hb)
  replace HF9:=mk0 (jk3 HF9.out hb)
  replace HF1:=mk0 (jk3 HF1.out hb)
  replace HF5:=mk0 (jk3 HF5.out hb)
  replace HF3:=mk0 (jk3 HF3.out hb)
  replace HF4:=mk0 (jk3 HF4.out hb)
  replace HF7:=mk0 (jk3 HF7.out hb)
  replace HF8:=mk0 (jk3 HF8.out hb)
  replace HF6:=mk0 (jk3 HF6.out hb)
  have HF2:=HFn
  have HE2:=mk0 he
  clear hF hb he HFn
  go_wp2_with (first|((with_reducible refine jjz (t:=24) (p:=45) rfl ?_);refine BX.out.event 2 (.slice F2 (clMs 0 x.f2).length e2) #[.string x.f0,.slice F1 x.f1.length e1,.slice F2 (clMs 0 x.f2).length e2,.slice F3 x.f3.length e3,.slice F4 x.f4.length e4,.slice F5 x.f5.length e5,.slice F6 x.f6.length e6,.slice F7 x.f7.length e7,.slice F8 x.f8.length e8,.slice F9 x.f9.length e9,.slice none 0 0] ?_;intro w22 hX hg hB;have n0_:=mk0 (hB _ _ HGX.out HB.out);have n1_:=mk0 (hX);have n2_:=mk0 (jj8 HNX.out HF9.out hg);have n3_:=mk0 (jj8 HNX.out HF1.out hg);have n4_:=mk0 (jj8 HNX.out HF5.out hg);have n5_:=mk0 (jj8 HNX.out HF3.out hg);have n6_:=mk0 (jj8 HNX.out HF4.out hg);have n7_:=mk0 (jj8 HNX.out HF7.out hg);have n8_:=mk0 (jj8 HNX.out HF8.out hg);have n9_:=mk0 (jj8 HNX.out HF6.out hg);have n10_:=mk0 (jj8 HNX.out HF2.out hg);clear HB BX HF9 HF1 HF5 HF3 HF4 HF7 HF8 HF6 HF2;have HB:=n0_;have BX:=n1_;have HF9:=n2_;have HF1:=n3_;have HF5:=n4_;have HF3:=n5_;have HF4:=n6_;have HF7:=n7_;have HF8:=n8_;have HF6:=n9_;have HF2:=n10_;clear n0_ n1_ n2_ n3_ n4_ n5_ n6_ n7_ n8_ n9_ n10_;clear hX hg hB;have B3:=mk0 ((BX.out.touch gr (blk_lt B2.out) HNE.out).trans B2.out))|((with_reducible refine gate_load (ty:=76) (p:=2) rfl ?_);refine load_box 76 2 gx _ _ BX.out.blk Try.underlying76 ?_)|((with_reducible refine jjz (t:=76) (p:=4) rfl ?_);refine Ur.store_box 76 4 46 gr #[.string x.f0,.slice F1 x.f1.length e1,.slice F2 (clMs 0 x.f2).length e2,.slice F3 x.f3.length e3,.slice F4 x.f4.length e4,.slice F5 x.f5.length e5,.slice F6 x.f6.length e6,.slice F7 x.f7.length e7,.slice F8 x.f8.length e8,.slice F9 x.f9.length e9,.slice none 0 0] B3.out ?_;intro w9 hS hbS hkS;have B9:=mk0 hS;have HB9:=mk0 (hbS _ _ HG2.out HB.out);have HK9:=mk0 hkS;clear hS hbS hkS))
  refine bodyPost_ret (res_c1 rfl _ _ gr 76 #[.string x.f0,.slice F1 x.f1.length e1,.slice F2 (clMs 0 x.f2).length e2,.slice F3 x.f3.length e3,.slice F4 x.f4.length e4,.slice F5 x.f5.length e5,.slice F6 x.f6.length e6,.slice F7 x.f7.length e7,.slice F8 x.f8.length e8,.slice F9 x.f9.length e9,.slice none 0 0] (0,0) _ rfl B9.out Try.underlying76 rfl (by kernel_rfl)) rfl ?_
  have fin:∀ {β:Type} {d':Kd β} {A:Option Addr} {m:Nat} {ys:List β},Kd.F d' w0 (fun k=>okB okc w.heap.size n1 k∧k < w0.heap.size) A m ys→Kd.F d' w9 (okN okc w.heap.size) A m ys:=fun hF=>Kd.F_mono (Kd.F_step (BX.out.F HNX.out hF) (fun k hk _=>HK9.out k (HN2.out k hk.1))) (fun k hk=>okB_in HNL.out hk.1)
  have fix:∀ {β:Type} {d':Kd β} {A:Option Addr} {m:Nat} {ys:List β},Kd.F d' w22 (fun k=>okB okc w.heap.size n1 k∧k < w22.heap.size) A m ys→Kd.F d' w9 (okN okc w.heap.size) A m ys:=fun hF=>Kd.F_mono (Kd.F_step hF (fun k hk _=>HK9.out k (HN2.out k hk.1))) (fun k hk=>okB_in HNL.out hk.1)
  refine ⟨[.string x.f0,.slice F1 x.f1.length e1,.slice F2 (clMs 0 x.f2).length e2,.slice F3 x.f3.length e3,.slice F4 x.f4.length e4,.slice F5 x.f5.length e5,.slice F6 x.f6.length e6,.slice F7 x.f7.length e7,.slice F8 x.f8.length e8,.slice F9 x.f9.length e9,.slice none 0 0],rfl,?_,HB9.out⟩
  have h_:=k76_mkF w9 (okN okc w.heap.size) (clMx 0 x) (le_map HE1.out) (F_map (fix HF1.out)) HE2.out (fix HF2.out) (le_map HE3.out) (F_map (fix HF3.out)) HE4.out (fix HF4.out) (le_map HE5.out) (F_map (fix HF5.out)) (le_map HE6.out) (F_map (fix HF6.out)) HE7.out (fix HF7.out) HE8.out (fix HF8.out) HE9.out (fix HF9.out) (A10:=none) (c10:=0) (Nat.le_refl 0) (F_nil8 _ _)
  rw [show (clMx 0 x).f1.length=x.f1.length from List.length_map ..,show (clMx 0 x).f3.length=x.f3.length from List.length_map ..,show (clMx 0 x).f5.length=x.f5.length from List.length_map ..,show (clMx 0 x).f6.length=x.f6.length from List.length_map ..] at h_
  exact h_
 | succ n=>
  have HEQ:(a==64)=false:=by rw [beq_eq_false_iff_ne];have:=HA.out;omega
  go_wp2_with (first|((with_reducible refine jjz (t:=74) (p:=37) rfl ?_);refine BX.out.event 6 (.slice F6 x.f6.length e6) #[.string x.f0,.slice F1 x.f1.length e1,.slice A2 x.f2.length c2,.slice F3 x.f3.length e3,.slice F4 x.f4.length e4,.slice F5 x.f5.length e5,.slice F6 x.f6.length e6,.slice F7 x.f7.length e7,.slice F8 x.f8.length e8,.slice F9 x.f9.length e9,.slice none 0 0] ?_;intro w19 hX hg hB;replace HB:=mk0 (hB _ _ HGX.out HB.out);replace BX:=mk0 (hX);replace HF9:=mk0 (jj8 HNX.out HF9.out hg);replace HF1:=mk0 (jj8 HNX.out HF1.out hg);replace HF5:=mk0 (jj8 HNX.out HF5.out hg);replace HF3:=mk0 (jj8 HNX.out HF3.out hg);replace HF4:=mk0 (jj8 HNX.out HF4.out hg);replace HF7:=mk0 (jj8 HNX.out HF7.out hg);replace HF8:=mk0 (jj8 HNX.out HF8.out hg);replace HF6:=mk0 (jj8 HNX.out HF6.out hg);clear hX hg hB;have ka_:w19.cell? ⟨ga,0,none⟩=some (.int .i64 a:Value):=(blk_cell ((BX.out.touch ga (blk_lt BA.out) HAN.out).trans BA.out) 0).trans rfl;have k2_:w19.cell? ⟨gx,2,none⟩=some (.slice A2 x.f2.length c2:Value):=BX.out.cell 2 rfl))
  clear k2_ ka_
  refine (eachN1_c n a ga (hIH.out n rfl) x.f2 HL.out.2.1 (fun k=>okB okc w.heap.size n1 k∧k < w0.heap.size) A2 c2 w19 (BX.out.F HNX.out G2.out) ((BX.out.touch ga (blk_lt BA.out) HAN.out).trans BA.out)).mono ?_
  rintro e w20 ⟨F2,e2,rfl,he,hF,hb⟩
  have HFn:=mk0 (BX.out.Fcall (ok:=okB okc w.heap.size n1) HFR.out hF)
  replace HB:=mk0 (jj1 HB.out HB.out.size hb)
  replace BX:=mk0 (BX.out.below hb)
  replace HF9:=mk0 (jk3 HF9.out hb)
  replace HF1:=mk0 (jk3 HF1.out hb)
  replace HF5:=mk0 (jk3 HF5.out hb)
  replace HF3:=mk0 (jk3 HF3.out hb)
  replace HF4:=mk0 (jk3 HF4.out hb)
  replace HF7:=mk0 (jk3 HF7.out hb)
  replace HF8:=mk0 (jk3 HF8.out hb)
  replace HF6:=mk0 (jk3 HF6.out hb)
  have HF2:=HFn
  have HE2:=mk0 he
  clear hF hb he HFn
  go_wp2_with (first|((with_reducible refine jjz (t:=24) (p:=45) rfl ?_);refine BX.out.event 2 (.slice F2 (clMs (n+1) x.f2).length e2) #[.string x.f0,.slice F1 x.f1.length e1,.slice F2 (clMs (n+1) x.f2).length e2,.slice F3 x.f3.length e3,.slice F4 x.f4.length e4,.slice F5 x.f5.length e5,.slice F6 x.f6.length e6,.slice F7 x.f7.length e7,.slice F8 x.f8.length e8,.slice F9 x.f9.length e9,.slice none 0 0] ?_;intro w21 hX hg hB;have n0_:=mk0 (hB _ _ HGX.out HB.out);have n1_:=mk0 (hX);have n2_:=mk0 (jj8 HNX.out HF9.out hg);have n3_:=mk0 (jj8 HNX.out HF1.out hg);have n4_:=mk0 (jj8 HNX.out HF5.out hg);have n5_:=mk0 (jj8 HNX.out HF3.out hg);have n6_:=mk0 (jj8 HNX.out HF4.out hg);have n7_:=mk0 (jj8 HNX.out HF7.out hg);have n8_:=mk0 (jj8 HNX.out HF8.out hg);have n9_:=mk0 (jj8 HNX.out HF6.out hg);have n10_:=mk0 (jj8 HNX.out HF2.out hg);clear HB BX HF9 HF1 HF5 HF3 HF4 HF7 HF8 HF6 HF2;have HB:=n0_;have BX:=n1_;have HF9:=n2_;have HF1:=n3_;have HF5:=n4_;have HF3:=n5_;have HF4:=n6_;have HF7:=n7_;have HF8:=n8_;have HF6:=n9_;have HF2:=n10_;clear n0_ n1_ n2_ n3_ n4_ n5_ n6_ n7_ n8_ n9_ n10_;clear hX hg hB;have B3:=mk0 ((BX.out.touch gr (blk_lt B2.out) HNE.out).trans B2.out))|((with_reducible refine gate_load (ty:=76) (p:=2) rfl ?_);refine load_box 76 2 gx _ _ BX.out.blk Try.underlying76 ?_)|((with_reducible refine jjz (t:=76) (p:=4) rfl ?_);refine Ur.store_box 76 4 46 gr #[.string x.f0,.slice F1 x.f1.length e1,.slice F2 (clMs (n+1) x.f2).length e2,.slice F3 x.f3.length e3,.slice F4 x.f4.length e4,.slice F5 x.f5.length e5,.slice F6 x.f6.length e6,.slice F7 x.f7.length e7,.slice F8 x.f8.length e8,.slice F9 x.f9.length e9,.slice none 0 0] B3.out ?_;intro w9 hS hbS hkS;have B9:=mk0 hS;have HB9:=mk0 (hbS _ _ HG2.out HB.out);have HK9:=mk0 hkS;clear hS hbS hkS))
  refine bodyPost_ret (res_c1 rfl _ _ gr 76 #[.string x.f0,.slice F1 x.f1.length e1,.slice F2 (clMs (n+1) x.f2).length e2,.slice F3 x.f3.length e3,.slice F4 x.f4.length e4,.slice F5 x.f5.length e5,.slice F6 x.f6.length e6,.slice F7 x.f7.length e7,.slice F8 x.f8.length e8,.slice F9 x.f9.length e9,.slice none 0 0] (0,0) _ rfl B9.out Try.underlying76 rfl (by kernel_rfl)) rfl ?_
  have fin:∀ {β:Type} {d':Kd β} {A:Option Addr} {m:Nat} {ys:List β},Kd.F d' w0 (fun k=>okB okc w.heap.size n1 k∧k < w0.heap.size) A m ys→Kd.F d' w9 (okN okc w.heap.size) A m ys:=fun hF=>Kd.F_mono (Kd.F_step (BX.out.F HNX.out hF) (fun k hk _=>HK9.out k (HN2.out k hk.1))) (fun k hk=>okB_in HNL.out hk.1)
  have fix:∀ {β:Type} {d':Kd β} {A:Option Addr} {m:Nat} {ys:List β},Kd.F d' w21 (fun k=>okB okc w.heap.size n1 k∧k < w21.heap.size) A m ys→Kd.F d' w9 (okN okc w.heap.size) A m ys:=fun hF=>Kd.F_mono (Kd.F_step hF (fun k hk _=>HK9.out k (HN2.out k hk.1))) (fun k hk=>okB_in HNL.out hk.1)
  refine ⟨[.string x.f0,.slice F1 x.f1.length e1,.slice F2 (clMs (n+1) x.f2).length e2,.slice F3 x.f3.length e3,.slice F4 x.f4.length e4,.slice F5 x.f5.length e5,.slice F6 x.f6.length e6,.slice F7 x.f7.length e7,.slice F8 x.f8.length e8,.slice F9 x.f9.length e9,.slice none 0 0],rfl,?_,HB9.out⟩
  have h_:=k76_mkF w9 (okN okc w.heap.size) (clMx (n+1) x) (le_map HE1.out) (F_map (fix HF1.out)) HE2.out (fix HF2.out) (le_map HE3.out) (F_map (fix HF3.out)) HE4.out (fix HF4.out) (le_map HE5.out) (F_map (fix HF5.out)) (le_map HE6.out) (F_map (fix HF6.out)) HE7.out (fix HF7.out) HE8.out (fix HF8.out) HE9.out (fix HF9.out) (A10:=none) (c10:=0) (Nat.le_refl 0) (F_nil8 _ _)
  rw [show (clMx (n+1) x).f1.length=x.f1.length from List.length_map ..,show (clMx (n+1) x).f3.length=x.f3.length from List.length_map ..,show (clMx (n+1) x).f5.length=x.f5.length from List.length_map ..,show (clMx (n+1) x).f6.length=x.f6.length from List.length_map ..] at h_
  exact h_
theorem clnMessage_c:∀ (n:Nat) (a:Int),0≤a→a+n=64→ClnM n a:=by
 intro n
 induction n with
 | zero=>intro a h0 ha;exact clnMsg_c 0 a h0 ha (fun m hm=>by cases hm)
 | succ n ih=>intro a h0 ha;exact clnMsg_c (n+1) a h0 ha (fun m hm=>by obtain rfl:n=m:=(by omega);exact ih (wrap64 (a+1)) (by unfold wrap64;omega) (by unfold wrap64;omega))
theorem eachTop_c (l:List S76) (hb:(l.map bk76).sum≤4294967296) (okp:Nat→Prop) (A0:Option Addr) (c0:Nat) (w:World) (HF:Kd.F k76 w okp A0 l.length l) :
 Calls Try.prog 41 #[.slice A0 l.length c0,.func (.func 42) #[] #[]] w fun e w'=>∃ A c,e = .returned (.slice A (clMs 64 l).length c)∧(clMs 64 l).length≤c∧Kd.F k76 w' (okN okp w.heap.size) A (clMs 64 l).length (clMs 64 l)∧Below w.heap.size w w':=by
 rw [show clMs 64 l=l.map (clMx 63) from rfl,List.length_map]
 exact eachM42_c 63 (clnMessage_c 63 1 (by decide) (by decide)) l hb okp A0 c0 w HF
end Go.Proofs.Ytheoafenehckbaa.Ur
