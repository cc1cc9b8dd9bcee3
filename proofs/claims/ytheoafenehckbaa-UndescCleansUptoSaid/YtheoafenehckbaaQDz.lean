/- undesc.Clean. -/
import Derived.Test.YtheoafenehckbaaQDn
import Derived.Test.YtheoafenehckbaaQSh
import Derived.LoopN
import Derived.RegionTactic
namespace Go.Proofs.Ytheoafenehckbaa.Ur
open Go.RowKit GUndescBack YtheoafenehckbaaW.PrintWords YtheoafenehckbaaW.PrintLast YtheoafenehckbaaW.PrintMore Rk
set_option linter.unusedVariables false
set_option linter.unusedSimpArgs false
def Uclean_c.T2:Bool × List (List Nat × List Nat):=(true,[([],[]),([0],[0]),([1],[1]),([],[]),([3],[3]),([4,2],[4]),([0,1,2,3,4],[]),([6,2,5,0,1,2,3,4],[2,6]),([0,1,2,3,4,5,6,7],[]),([8,5,7,0,1,2,3,4,5,6,7],[5,8])])
def Uclean_c.B2:List Nat:=[0,1,3,0,8,31,31,127,255,511]
theorem Uclean_c.tab2:rtab .any (opsOf Try.f14 2)=Uclean_c.T2:=by kernel_rfl
theorem Uclean_c.bits2:waitsOk Uclean_c.T2.2 Uclean_c.B2=true:=by kernel_rfl
def Uclean_c.T4:Bool × List (List Nat × List Nat):=(true,[([],[]),([0],[0]),([1],[1]),([],[]),([3],[3]),([4,2],[4]),([],[]),([6],[6]),([7,5],[7]),([0,1,2,3,4,6,7],[]),([9,2,8,0,1,2,3,4,6,7],[2,9]),([0,1,2,3,4,5,6,7,9,10],[]),([11,5,10,0,1,2,3,4,5,6,7,9,10],[5,11]),([0,1,2,3,4,5,6,7,8,9,10,11,12],[]),([13,8,12,0,1,2,3,4,5,6,7,8,9,10,11,12],[8,13])])
def Uclean_c.B4:List Nat:=[0,1,3,0,8,31,0,64,255,223,1023,2047,4095,8191,16383]
theorem Uclean_c.tab4:rtab .any (opsOf Try.f14 4)=Uclean_c.T4:=by kernel_rfl
theorem Uclean_c.bits4:waitsOk Uclean_c.T4.2 Uclean_c.B4=true:=by kernel_rfl
set_option maxHeartbeats 8000000 in
set_option maxRecDepth 100000 in
theorem Uclean_c (x:S30) (hbk:bk30 x≤4294967296) (okc:Nat→Prop) (w:World) (cs:List Value) (hx:Kd.FK k30 w okc x cs) :
 Calls Try.prog 14 #[.agg cs.toArray] w fun e w'=>∃ cs':List Value,e = .returned (.agg cs'.toArray)∧Kd.FK k30 w' (okN okc w.heap.size) (clFile x) cs'∧Below w.heap.size w w':=by
 obtain ⟨A2,c2,A3,c3,A4,c4,A5,c5,A6,c6,A7,c7,A9,c9,A10,c10,rfl,l2,g2,l3,g3,l4,g4,l5,g5,l6,g6,l7,g7,l9,g9,l10,g10⟩:=k30_openF hx
 have HL:=mk0 (bnFile hbk)
 clear hbk
 go_enter Try.func14,Try.ntmps14
 go_wp2_with (first|((with_reducible refine jk0 (N:=1) rfl ?_);refine bzX 1 #[.string x.f0,.string x.f1,.slice A2 x.f2.length c2,.slice A3 x.f3.length c3,.slice A4 x.f4.length c4,.slice A5 x.f5.length c5,.slice A6 x.f6.length c6,.slice A7 x.f7.length c7,.string x.f8,.slice A9 x.f9.length c9,.slice A10 x.f10.length c10] 30 ?_;intro gx hgx wa hbox hb;have HB:=mk0 hb;have BX0:=mk0 hbox;have HGX:=mk0 (Nat.le_of_eq hgx.symm);clear hgx hbox hb)|((with_reducible refine jk0 (N:=2) rfl ?_);refine bzX 2 #[.string (⟨#[]⟩:ByteArray),.string (⟨#[]⟩:ByteArray),.slice none 0 0,.slice none 0 0,.slice none 0 0,.slice none 0 0,.slice none 0 0,.slice none 0 0,.string (⟨#[]⟩:ByteArray),.slice none 0 0,.slice none 0 0] 30 ?_;intro gr hgx w0 hbox hb;have HB1:=mk0 (jj1 HB.out HB.out.size hb);have BX:=mk0 (Bx.new (jj3 BX0.out hb));have B2:=mk0 hbox;have HG2:=mk0 (show w.heap.size≤gr from hgx ▸ HB.out.size);have HNE:=mk0 (show gr≠gx from fun e=>by have:=blk_lt BX0.out;rw [hgx] at e;omega);clear HB BX0 hgx hbox hb;have HB:=HB1;clear HB1;have k9_:w0.cell? ⟨gx,9,none⟩=some (.slice A9 x.f9.length c9:Value):=BX.out.cell 9 rfl))
 obtain ⟨n1,hn1⟩:∃ z,z=w0.heap.size:=⟨_,rfl⟩
 have HNX:Aside0 (∀ k,okB okc w.heap.size n1 k→k≠gx):=⟨okB_ne HGX.out (by rw [hn1];exact BX.out.glt)⟩
 have HN2:Aside0 (∀ k,okB okc w.heap.size n1 k→k≠gr):=⟨okB_ne HG2.out (by rw [hn1];exact blk_lt B2.out)⟩
 have HNL:=mk0 (show w.heap.size≤n1 from by rw [hn1];exact Nat.le_trans HG2.out (Nat.le_of_lt (blk_lt B2.out)))
 have HFR:Aside0 (∀ k,w0.heap.size≤k→okB okc w.heap.size n1 k):=⟨fun k hk=>okB_fr (by rw [hn1];exact hk)⟩
 have G2:=mk0 (okB_of (n1:=n1) g2 rfl HB.out)
 have G3:=mk0 (okB_of (n1:=n1) g3 rfl HB.out)
 have G4:=mk0 (okB_of (n1:=n1) g4 rfl HB.out)
 have G5:=mk0 (okB_of (n1:=n1) g5 rfl HB.out)
 have G6:=mk0 (okB_of (n1:=n1) g6 rfl HB.out)
 have G7:=mk0 (okB_of (n1:=n1) g7 rfl HB.out)
 have G9:=mk0 (okB_of (n1:=n1) g9 rfl HB.out)
 have G10:=mk0 (okB_of (n1:=n1) g10 rfl HB.out)
 clear hn1 g2 g3 g4 g5 g6 g7 g9 g10 k9_
 refine (clone8_c x.f9 HL.out.2.2.2.2.2.2.1 _ A9 c9 w0 (BX.out.F HNX.out G9.out)).mono ?_
 rintro e w1 ⟨F9,e9,rfl,he,hF,hb⟩
 have HFn:=mk0 (BX.out.Fcall (ok:=okB okc w.heap.size n1) HFR.out hF)
 replace HB:=mk0 (jj1 HB.out HB.out.size hb)
 replace BX:=mk0 (BX.out.below hb)
 have HF9:=HFn
 have HE9:=mk0 he
 clear hF hb he HFn
 go_wp2_with (first|((with_reducible refine jjz (t:=28) (p:=6) rfl ?_);refine BX.out.event 9 (.slice F9 x.f9.length e9) #[.string x.f0,.string x.f1,.slice A2 x.f2.length c2,.slice A3 x.f3.length c3,.slice A4 x.f4.length c4,.slice A5 x.f5.length c5,.slice A6 x.f6.length c6,.slice A7 x.f7.length c7,.string x.f8,.slice F9 x.f9.length e9,.slice A10 x.f10.length c10] ?_;intro w2 hX hg hB;replace HB:=mk0 (hB _ _ HGX.out HB.out);replace BX:=mk0 (hX);replace HF9:=mk0 (jj8 HNX.out HF9.out hg);clear hX hg hB)|((with_reducible refine jjz (t:=28) (p:=7) rfl ?_);refine BX.out.event 10 (.slice none 0 0) #[.string x.f0,.string x.f1,.slice A2 x.f2.length c2,.slice A3 x.f3.length c3,.slice A4 x.f4.length c4,.slice A5 x.f5.length c5,.slice A6 x.f6.length c6,.slice A7 x.f7.length c7,.string x.f8,.slice F9 x.f9.length e9,.slice none 0 0] ?_;intro w3 hX hg hB;replace HB:=mk0 (hB _ _ HGX.out HB.out);replace BX:=mk0 (hX);replace HF9:=mk0 (jj8 HNX.out HF9.out hg);clear hX hg hB))
 refine start_ (n:=10) (S:=fun w'=>w'.cell? ⟨gx,2,none⟩=some (.slice A2 x.f2.length c2)∧w'.cell? ⟨gx,3,none⟩=some (.slice A3 x.f3.length c3)) (ds:=[7,9]) (bzs 10 0) (by kernel_rfl) rfl rfl ⟨(BX.out.cell 2 rfl),(BX.out.cell 3 rfl)⟩ (fun hHeld=>?_)
 refine with_tabW Uclean_c.tab2 Uclean_c.bits2 (fun HT_ HW_=>?_)
 replace HB:=mk0 (jj2 HB.out)
 replace BX:=mk0 (BX.out.below (jj2 (Below.refl _ _)))
 replace HF9:=mk0 (jk3 HF9.out (jj2 (Below.refl _ _)))
 generalize w3.drew=w4 at HB BX HF9 hHeld ⊢
 refine pzS 0 (some 8) (bzs 10 1) HT_ ?_
 refine pzS 3 (some 11) (bzs 10 9) HT_ ?_
 refine tzS 1 (some 9) (bzs 10 11) HT_ HW_ hHeld ?_
 refine tzS 4 (some 12) (bzs 10 27) HT_ HW_ hHeld ?_
 refine one_ (i:=2) (N:=some 10) (bzs 10 31) rfl rfl (jk2 HT_.out (by kernel_rfl)) (by decide) (fun K hK=>?_)
 refine gzO Try.func39 #[.slice A2 x.f2.length c2] ?_
 refine (cloneS_c x.f2 HL.out.1 _ A2 c2 w4 (BX.out.F HNX.out G2.out)).mono ?_
 rintro e w5 ⟨F2,e2,rfl,he,hF,hb⟩
 refine ⟨_,rfl,?_⟩
 have HFn:=mk0 (BX.out.Fcall (ok:=okB okc w.heap.size n1) HFR.out hF)
 replace HB:=mk0 (jj1 HB.out HB.out.size hb)
 replace BX:=mk0 (BX.out.below hb)
 replace HF9:=mk0 (jk3 HF9.out hb)
 have HF2:=HFn
 have HE2:=mk0 he
 clear hF hb he HFn
 refine hK.out _ _ ⟨(BX.out.cell 2 rfl),(BX.out.cell 3 rfl)⟩ (fun hHeld=>?_)
 clear hK K
 refine nzS (some 10) ?_
 refine pzS 6 (some 14) (bzs 10 95) HT_ ?_
 refine one_ (i:=5) (N:=some 13) (bzs 10 127) rfl rfl (jk2 HT_.out (by kernel_rfl)) (by decide) (fun K hK=>?_)
 refine gzO Try.func40 #[.slice A3 x.f3.length c3] ?_
 refine (cloneI_c x.f3 HL.out.2.1 _ A3 c3 w5 (BX.out.F HNX.out G3.out)).mono ?_
 rintro e w6 ⟨F3,e3,rfl,he,hF,hb⟩
 refine ⟨_,rfl,?_⟩
 have HFn:=mk0 (BX.out.Fcall (ok:=okB okc w.heap.size n1) HFR.out hF)
 replace HB:=mk0 (jj1 HB.out HB.out.size hb)
 replace BX:=mk0 (BX.out.below hb)
 replace HF9:=mk0 (jk3 HF9.out hb)
 replace HF2:=mk0 (jk3 HF2.out hb)
 have HF3:=HFn
 have HE3:=mk0 he
 clear hF hb he HFn
 refine hK.out _ _ ⟨(BX.out.cell 2 rfl),(BX.out.cell 3 rfl)⟩ (fun hHeld=>?_)
 clear hK K
 refine nzS (some 13) ?_
 refine last_ (i:=7) (N:=none) (bzs 10 255) rfl rfl (jk2 HT_.out (by kernel_rfl)) (by decide) (fun K hK=>?_)
 refine BX.out.estep 2 (.slice F2 x.f2.length e2) #[.string x.f0,.string x.f1,.slice F2 x.f2.length e2,.slice A3 x.f3.length c3,.slice A4 x.f4.length c4,.slice A5 x.f5.length c5,.slice A6 x.f6.length c6,.slice A7 x.f7.length c7,.string x.f8,.slice F9 x.f9.length e9,.slice none 0 0] ?_
 intro w7 hX hg hB
 replace HB:=mk0 (hB _ _ HGX.out HB.out)
 replace BX:=mk0 (hX)
 replace HF9:=mk0 (jj8 HNX.out HF9.out hg)
 replace HF2:=mk0 (jj8 HNX.out HF2.out hg)
 replace HF3:=mk0 (jj8 HNX.out HF3.out hg)
 clear hX hg hB
 refine hK.out _ _ ?_
 clear hK K
 refine pzS 8 (some 15) (bzs 10 511) HT_ ?_
 refine last_ (i:=9) (N:=none) (bzs 10 1023) rfl rfl (jk2 HT_.out (by kernel_rfl)) (by decide) (fun K hK=>?_)
 refine BX.out.estep 3 (.slice F3 x.f3.length e3) #[.string x.f0,.string x.f1,.slice F2 x.f2.length e2,.slice F3 x.f3.length e3,.slice A4 x.f4.length c4,.slice A5 x.f5.length c5,.slice A6 x.f6.length c6,.slice A7 x.f7.length c7,.string x.f8,.slice F9 x.f9.length e9,.slice none 0 0] ?_
 intro w8 hX hg hB
 replace HB:=mk0 (hB _ _ HGX.out HB.out)
 replace BX:=mk0 (hX)
 replace HF9:=mk0 (jj8 HNX.out HF9.out hg)
 replace HF2:=mk0 (jj8 HNX.out HF2.out hg)
 replace HF3:=mk0 (jj8 HNX.out HF3.out hg)
 clear hX hg hB
 refine hK.out _ _ ?_
 clear hK K
 refine done_ (done_of HT_.out (by kernel_rfl)) ?_
 have k4_:w8.cell? ⟨gx,4,none⟩=some (.slice A4 x.f4.length c4:Value):=BX.out.cell 4 rfl
 go_wp2_with fail
 clear k4_
 refine (eachTop_c x.f4 HL.out.2.2.1 _ A4 c4 w8 (BX.out.F HNX.out G4.out)).mono ?_
 rintro e w9 ⟨F4,e4,rfl,he,hF,hb⟩
 have HFn:=mk0 (BX.out.Fcall (ok:=okB okc w.heap.size n1) HFR.out hF)
 replace HB:=mk0 (jj1 HB.out HB.out.size hb)
 replace BX:=mk0 (BX.out.below hb)
 replace HF9:=mk0 (jk3 HF9.out hb)
 replace HF2:=mk0 (jk3 HF2.out hb)
 replace HF3:=mk0 (jk3 HF3.out hb)
 have HF4:=HFn
 have HE4:=mk0 he
 clear hF hb he HFn
 go_wp2_with (first|((with_reducible refine jjz (t:=24) (p:=19) rfl ?_);refine BX.out.event 4 (.slice F4 (clMs 64 x.f4).length e4) #[.string x.f0,.string x.f1,.slice F2 x.f2.length e2,.slice F3 x.f3.length e3,.slice F4 (clMs 64 x.f4).length e4,.slice A5 x.f5.length c5,.slice A6 x.f6.length c6,.slice A7 x.f7.length c7,.string x.f8,.slice F9 x.f9.length e9,.slice none 0 0] ?_;intro w10 hX hg hB;replace HB:=mk0 (hB _ _ HGX.out HB.out);replace BX:=mk0 (hX);replace HF9:=mk0 (jj8 HNX.out HF9.out hg);replace HF2:=mk0 (jj8 HNX.out HF2.out hg);replace HF3:=mk0 (jj8 HNX.out HF3.out hg);replace HF4:=mk0 (jj8 HNX.out HF4.out hg);clear hX hg hB))
 refine start_ (n:=15) (S:=fun w'=>w'.cell? ⟨gx,5,none⟩=some (.slice A5 x.f5.length c5)∧w'.cell? ⟨gx,6,none⟩=some (.slice A6 x.f6.length c6)∧w'.cell? ⟨gx,7,none⟩=some (.slice A7 x.f7.length c7)) (ds:=[10,12,14]) (bzs 15 0) (by kernel_rfl) rfl rfl ⟨(BX.out.cell 5 rfl),(BX.out.cell 6 rfl),(BX.out.cell 7 rfl)⟩ (fun hHeld=>?_)
 refine with_tabW Uclean_c.tab4 Uclean_c.bits4 (fun HT_ HW_=>?_)
 replace HB:=mk0 (jj2 HB.out)
 replace BX:=mk0 (BX.out.below (jj2 (Below.refl _ _)))
 replace HF9:=mk0 (jk3 HF9.out (jj2 (Below.refl _ _)))
 replace HF2:=mk0 (jk3 HF2.out (jj2 (Below.refl _ _)))
 replace HF3:=mk0 (jk3 HF3.out (jj2 (Below.refl _ _)))
 replace HF4:=mk0 (jk3 HF4.out (jj2 (Below.refl _ _)))
 generalize w10.drew=w11 at HB BX HF9 HF2 HF3 HF4 hHeld ⊢
 refine pzS 0 (some 20) (bzs 15 1) HT_ ?_
 refine pzS 3 (some 23) (bzs 15 9) HT_ ?_
 refine pzS 6 (some 26) (bzs 15 73) HT_ ?_
 refine tzS 1 (some 21) (bzs 15 75) HT_ HW_ hHeld ?_
 refine tzS 4 (some 24) (bzs 15 91) HT_ HW_ hHeld ?_
 refine tzS 7 (some 27) (bzs 15 219) HT_ HW_ hHeld ?_
 refine one_ (i:=2) (N:=some 22) (bzs 15 223) rfl rfl (jk2 HT_.out (by kernel_rfl)) (by decide) (fun K hK=>?_)
 refine gzO Try.func44 #[.slice A5 x.f5.length c5,.func (.func 45) #[] #[]] ?_
 refine (eachEnum_c x.f5 HL.out.2.2.2.1 _ A5 c5 w11 (BX.out.F HNX.out G5.out)).mono ?_
 rintro e w12 ⟨F5,e5,rfl,he,hF,hb⟩
 refine ⟨_,rfl,?_⟩
 have HFn:=mk0 (BX.out.Fcall (ok:=okB okc w.heap.size n1) HFR.out hF)
 replace HB:=mk0 (jj1 HB.out HB.out.size hb)
 replace BX:=mk0 (BX.out.below hb)
 replace HF9:=mk0 (jk3 HF9.out hb)
 replace HF2:=mk0 (jk3 HF2.out hb)
 replace HF3:=mk0 (jk3 HF3.out hb)
 replace HF4:=mk0 (jk3 HF4.out hb)
 have HF5:=HFn
 have HE5:=mk0 he
 clear hF hb he HFn
 refine hK.out _ _ ⟨(BX.out.cell 5 rfl),(BX.out.cell 6 rfl),(BX.out.cell 7 rfl)⟩ (fun hHeld=>?_)
 clear hK K
 refine nzS (some 22) ?_
 refine pzS 9 (some 29) (bzs 15 735) HT_ ?_
 refine one_ (i:=5) (N:=some 25) (bzs 15 767) rfl rfl (jk2 HT_.out (by kernel_rfl)) (by decide) (fun K hK=>?_)
 refine gzO Try.func46 #[.slice A6 x.f6.length c6,.func (.func 47) #[] #[]] ?_
 refine (eachService_c x.f6 HL.out.2.2.2.2.1 _ A6 c6 w12 (BX.out.F HNX.out G6.out)).mono ?_
 rintro e w13 ⟨F6,e6,rfl,he,hF,hb⟩
 refine ⟨_,rfl,?_⟩
 have HFn:=mk0 (BX.out.Fcall (ok:=okB okc w.heap.size n1) HFR.out hF)
 replace HB:=mk0 (jj1 HB.out HB.out.size hb)
 replace BX:=mk0 (BX.out.below hb)
 replace HF9:=mk0 (jk3 HF9.out hb)
 replace HF2:=mk0 (jk3 HF2.out hb)
 replace HF3:=mk0 (jk3 HF3.out hb)
 replace HF4:=mk0 (jk3 HF4.out hb)
 replace HF5:=mk0 (jk3 HF5.out hb)
 have HF6:=HFn
 have HE6:=mk0 he
 clear hF hb he HFn
 refine hK.out _ _ ⟨(BX.out.cell 5 rfl),(BX.out.cell 6 rfl),(BX.out.cell 7 rfl)⟩ (fun hHeld=>?_)
 clear hK K
 refine nzS (some 25) ?_
 refine one_ (i:=8) (N:=some 28) (bzs 15 1023) rfl rfl (jk2 HT_.out (by kernel_rfl)) (by decide) (fun K hK=>?_)
 refine gzO Try.func48 #[.slice A7 x.f7.length c7,.func (.func 49) #[] #[]] ?_
 refine (eachField_c x.f7 HL.out.2.2.2.2.2.1 _ A7 c7 w13 (BX.out.F HNX.out G7.out)).mono ?_
 rintro e w14 ⟨F7,e7,rfl,he,hF,hb⟩
 refine ⟨_,rfl,?_⟩
 have HFn:=mk0 (BX.out.Fcall (ok:=okB okc w.heap.size n1) HFR.out hF)
 replace HB:=mk0 (jj1 HB.out HB.out.size hb)
 replace BX:=mk0 (BX.out.below hb)
 replace HF9:=mk0 (jk3 HF9.out hb)
 replace HF2:=mk0 (jk3 HF2.out hb)
 replace HF3:=mk0 (jk3 HF3.out hb)
 replace HF4:=mk0 (jk3 HF4.out hb)
 replace HF5:=mk0 (jk3 HF5.out hb)
 replace HF6:=mk0 (jk3 HF6.out hb)
 have HF7:=HFn
 have HE7:=mk0 he
 clear hF hb he HFn
 refine hK.out _ _ ⟨(BX.out.cell 5 rfl),(BX.out.cell 6 rfl),(BX.out.cell 7 rfl)⟩ (fun hHeld=>?_)
 clear hK K
 refine nzS (some 28) ?_
 refine last_ (i:=10) (N:=none) (bzs 15 2047) rfl rfl (jk2 HT_.out (by kernel_rfl)) (by decide) (fun K hK=>?_)
 refine BX.out.estep 5 (.slice F5 x.f5.length e5) #[.string x.f0,.string x.f1,.slice F2 x.f2.length e2,.slice F3 x.f3.length e3,.slice F4 (clMs 64 x.f4).length e4,.slice F5 x.f5.length e5,.slice A6 x.f6.length c6,.slice A7 x.f7.length c7,.string x.f8,.slice F9 x.f9.length e9,.slice none 0 0] ?_
 intro w15 hX hg hB
 replace HB:=mk0 (hB _ _ HGX.out HB.out)
 replace BX:=mk0 (hX)
 replace HF9:=mk0 (jj8 HNX.out HF9.out hg)
 replace HF2:=mk0 (jj8 HNX.out HF2.out hg)
 replace HF3:=mk0 (jj8 HNX.out HF3.out hg)
 replace HF4:=mk0 (jj8 HNX.out HF4.out hg)
 replace HF5:=mk0 (jj8 HNX.out HF5.out hg)
 replace HF6:=mk0 (jj8 HNX.out HF6.out hg)
 replace HF7:=mk0 (jj8 HNX.out HF7.out hg)
 clear hX hg hB
 refine hK.out _ _ ?_
 clear hK K
 refine pzS 11 (some 30) (bzs 15 4095) HT_ ?_
 refine last_ (i:=12) (N:=none) (bzs 15 8191) rfl rfl (jk2 HT_.out (by kernel_rfl)) (by decide) (fun K hK=>?_)
 refine BX.out.estep 6 (.slice F6 x.f6.length e6) #[.string x.f0,.string x.f1,.slice F2 x.f2.length e2,.slice F3 x.f3.length e3,.slice F4 (clMs 64 x.f4).length e4,.slice F5 x.f5.length e5,.slice F6 x.f6.length e6,.slice A7 x.f7.length c7,.string x.f8,.slice F9 x.f9.length e9,.slice none 0 0] ?_
 intro w16 hX hg hB
 replace HB:=mk0 (hB _ _ HGX.out HB.out)
 replace BX:=mk0 (hX)
 replace HF9:=mk0 (jj8 HNX.out HF9.out hg)
 replace HF2:=mk0 (jj8 HNX.out HF2.out hg)
 replace HF3:=mk0 (jj8 HNX.out HF3.out hg)
 replace HF4:=mk0 (jj8 HNX.out HF4.out hg)
 replace HF5:=mk0 (jj8 HNX.out HF5.out hg)
 replace HF6:=mk0 (jj8 HNX.out HF6.out hg)
 replace HF7:=mk0 (jj8 HNX.out HF7.out hg)
 clear hX hg hB
 refine hK.out _ _ ?_
 clear hK K
 refine pzS 13 (some 31) (bzs 15 16383) HT_ ?_
 refine last_ (i:=14) (N:=none) (bzs 15 32767) rfl rfl (jk2 HT_.out (by kernel_rfl)) (by decide) (fun K hK=>?_)
 refine BX.out.estep 7 (.slice F7 x.f7.length e7) #[.string x.f0,.string x.f1,.slice F2 x.f2.length e2,.slice F3 x.f3.length e3,.slice F4 (clMs 64 x.f4).length e4,.slice F5 x.f5.length e5,.slice F6 x.f6.length e6,.slice F7 x.f7.length e7,.string x.f8,.slice F9 x.f9.length e9,.slice none 0 0] ?_
 intro w17 hX hg hB
 replace HB:=mk0 (hB _ _ HGX.out HB.out)
 replace BX:=mk0 (hX)
 replace HF9:=mk0 (jj8 HNX.out HF9.out hg)
 replace HF2:=mk0 (jj8 HNX.out HF2.out hg)
 replace HF3:=mk0 (jj8 HNX.out HF3.out hg)
 replace HF4:=mk0 (jj8 HNX.out HF4.out hg)
 replace HF5:=mk0 (jj8 HNX.out HF5.out hg)
 replace HF6:=mk0 (jj8 HNX.out HF6.out hg)
 replace HF7:=mk0 (jj8 HNX.out HF7.out hg)
 clear hX hg hB
 refine hK.out _ _ ?_
 clear hK K
 refine done_ (done_of HT_.out (by kernel_rfl)) ?_
 have B3:=mk0 ((BX.out.touch gr (blk_lt B2.out) HNE.out).trans B2.out)
 go_wp2_with (first|((with_reducible refine gate_load (ty:=30) (p:=1) rfl ?_);refine load_box 30 1 gx _ _ BX.out.blk Try.underlying30 ?_)|((with_reducible refine jjz (t:=30) (p:=2) rfl ?_);refine Ur.store_box 30 2 32 gr #[.string x.f0,.string x.f1,.slice F2 x.f2.length e2,.slice F3 x.f3.length e3,.slice F4 (clMs 64 x.f4).length e4,.slice F5 x.f5.length e5,.slice F6 x.f6.length e6,.slice F7 x.f7.length e7,.string x.f8,.slice F9 x.f9.length e9,.slice none 0 0] B3.out ?_;intro w9 hS hbS hkS;have B9:=mk0 hS;have HB9:=mk0 (hbS _ _ HG2.out HB.out);have HK9:=mk0 hkS;clear hS hbS hkS))
 refine bodyPost_ret (res_c1 rfl _ _ gr 30 #[.string x.f0,.string x.f1,.slice F2 x.f2.length e2,.slice F3 x.f3.length e3,.slice F4 (clMs 64 x.f4).length e4,.slice F5 x.f5.length e5,.slice F6 x.f6.length e6,.slice F7 x.f7.length e7,.string x.f8,.slice F9 x.f9.length e9,.slice none 0 0] (0,0) _ rfl B9.out Try.underlying30 rfl (by kernel_rfl)) rfl ?_
 have fin:∀ {β:Type} {d':Kd β} {A:Option Addr} {m:Nat} {ys:List β},Kd.F d' w0 (fun k=>okB okc w.heap.size n1 k∧k < w0.heap.size) A m ys→Kd.F d' w9 (okN okc w.heap.size) A m ys:=fun hF=>Kd.F_mono (Kd.F_step (BX.out.F HNX.out hF) (fun k hk _=>HK9.out k (HN2.out k hk.1))) (fun k hk=>okB_in HNL.out hk.1)
 have fix:∀ {β:Type} {d':Kd β} {A:Option Addr} {m:Nat} {ys:List β},Kd.F d' w17 (fun k=>okB okc w.heap.size n1 k∧k < w17.heap.size) A m ys→Kd.F d' w9 (okN okc w.heap.size) A m ys:=fun hF=>Kd.F_mono (Kd.F_step hF (fun k hk _=>HK9.out k (HN2.out k hk.1))) (fun k hk=>okB_in HNL.out hk.1)
 refine ⟨[.string x.f0,.string x.f1,.slice F2 x.f2.length e2,.slice F3 x.f3.length e3,.slice F4 (clMs 64 x.f4).length e4,.slice F5 x.f5.length e5,.slice F6 x.f6.length e6,.slice F7 x.f7.length e7,.string x.f8,.slice F9 x.f9.length e9,.slice none 0 0],rfl,?_,HB9.out⟩
 have h_:=k30_mkF w9 (okN okc w.heap.size) (clFile x) HE2.out (fix HF2.out) HE3.out (fix HF3.out) HE4.out (fix HF4.out) (le_map HE5.out) (F_map (fix HF5.out)) (le_map HE6.out) (F_map (fix HF6.out)) (le_map HE7.out) (F_map (fix HF7.out)) HE9.out (fix HF9.out) (A10:=none) (c10:=0) (Nat.le_refl 0) (F_nil8 _ _)
 rw [show (clFile x).f5.length=x.f5.length from List.length_map ..,show (clFile x).f6.length=x.f6.length from List.length_map ..,show (clFile x).f7.length=x.f7.length from List.length_map ..] at h_
 exact h_
end Go.Proofs.Ytheoafenehckbaa.Ur
