/- A file cleaned, by the reference. -/
import Derived.Test.YtheoafenehckbaaQCm
import Derived.Test.YtheoafenehckbaaQSh
import Derived.Test.YtheoafenehckbaaQHb
import Derived.Test.YtheoafenehckbaaQSw
import Derived.LoopN
import Derived.RegionTactic
namespace Go.Proofs.Ytheoafenehckbaa.Ur
open Go.RowKit GUndescBack YtheoafenehckbaaW.PrintWords YtheoafenehckbaaW.PrintLast YtheoafenehckbaaW.PrintMore Rk
set_option linter.unusedVariables false
set_option linter.unusedSimpArgs false
theorem ifoService:(Try.prog.info? 51).map (fun i=>(i.zero,i.size,i.bytes))=some (some (.agg #[.string (⟨#[]⟩:ByteArray),.slice none 0 0,.slice none 0 0,.slice none 0 0]),4,88):=by kernel_rfl
theorem ifoMethod:(Try.prog.info? 53).map (fun i=>(i.zero,i.size,i.bytes))=some (some (.agg #[.string (⟨#[]⟩:ByteArray),.string (⟨#[]⟩:ByteArray),.string (⟨#[]⟩:ByteArray),.bool false,.bool false,.slice none 0 0,.slice none 0 0]),7,104):=by kernel_rfl
theorem clMethod_FK {W:World} {ok:Nat→Prop} {x:S53} {c:List Value} (h:Kd.FK k53 W ok x c):Kd.FK k53 W ok (clMethod x) (c.take 6++[.slice none 0 0]++c.drop 7):=by
 obtain ⟨A5,c5,A6,c6,rfl,l5,g5,l6,g6⟩:=k53_openF h
 exact k53_mkF W ok (clMethod x) l5 g5 (A6:=none) (c6:=0) (Nat.le_refl 0) (F_nil8 W ok)
def clean.T2:Bool × List (List Nat × List Nat):=(true,[([],[]),([0],[0]),([1],[1]),([],[]),([3],[3]),([4,2],[4]),([],[]),([6],[6]),([7,5],[7]),([0,1,2,3,4,6,7],[]),([9,2,8,0,1,2,3,4,6,7],[2,9]),([0,1,2,3,4,5,6,7,9,10],[]),([11,5,10,0,1,2,3,4,5,6,7,9,10],[5,11]),([0,1,2,3,4,5,6,7,8,9,10,11,12],[]),([13,8,12,0,1,2,3,4,5,6,7,8,9,10,11,12],[8,13])])
def clean.B2:List Nat:=[0,1,3,0,8,31,0,64,255,223,1023,2047,4095,8191,16383]
theorem clean.tab2:rtab .any (opsOf Try.f10 2)=clean.T2:=by kernel_rfl
theorem clean.bits2:waitsOk clean.T2.2 clean.B2=true:=by kernel_rfl
def clean.T8:Bool × List (List Nat × List Nat):=(true,[([],[]),([0],[0]),([],[]),([],[]),([3],[3]),([],[]),([4,5],[4,5]),([6],[6]),([7],[7]),([8],[8]),([1,2,0,1,2,3,4,5,6,7,8,9],[1,2]),([10,0,1,2,3,4,5,6,7,8,9],[10]),([11,9,9,0,1,2,3,4,5,6,7,8,9],[9,11])])
def clean.B8:List Nat:=[0,1,0,0,8,0,56,120,248,504,1023,2047,4095]
theorem clean.tab8:rtab .any (opsOf Try.f10 8)=clean.T8:=by kernel_rfl
theorem clean.bits8:waitsOk clean.T8.2 clean.B8=true:=by kernel_rfl
set_option maxHeartbeats 8000000 in
set_option maxRecDepth 100000 in
theorem Clean_c (x:S30) (hbk:bk30 x≤4294967296) (okc:Nat→Prop) (w:World) (cs:List Value) (hx:Kd.FK k30 w okc x cs) :
 Calls Try.prog 10 #[.agg cs.toArray] w fun e w'=>∃ cs':List Value,e = .returned (.agg cs'.toArray)∧Kd.FK k30 w' (okN okc w.heap.size) (clFile x) cs'∧Below w.heap.size w w':=by
 obtain ⟨A2,c2,A3,c3,A4,c4,A5,c5,A6,c6,A7,c7,A9,c9,A10,c10,rfl,l2,g2,l3,g3,l4,g4,l5,g5,l6,g6,l7,g7,l9,g9,l10,g10⟩:=k30_openF hx
 have HL:=mk0 (bk30_len hbk)
 clear hbk
 go_enter Try.func10,Try.ntmps10
 go_wp2_with (first|((with_reducible refine jk0 (N:=1) rfl ?_);refine bzX 1 #[.string x.f0,.string x.f1,.slice A2 x.f2.length c2,.slice A3 x.f3.length c3,.slice A4 x.f4.length c4,.slice A5 x.f5.length c5,.slice A6 x.f6.length c6,.slice A7 x.f7.length c7,.string x.f8,.slice A9 x.f9.length c9,.slice A10 x.f10.length c10] 30 ?_;intro gx hgx wa hbox hb;have HB:=mk0 hb;have BX0:=mk0 hbox;have HGX:=mk0 (Nat.le_of_eq hgx.symm);clear hgx hbox hb)|((with_reducible refine jk0 (N:=2) rfl ?_);refine bzX 2 #[.string (⟨#[]⟩:ByteArray),.string (⟨#[]⟩:ByteArray),.slice none 0 0,.slice none 0 0,.slice none 0 0,.slice none 0 0,.slice none 0 0,.slice none 0 0,.string (⟨#[]⟩:ByteArray),.slice none 0 0,.slice none 0 0] 30 ?_;intro gr hgx wb hbox hb;have HB1:=mk0 (jj1 HB.out HB.out.size hb);have BX:=mk0 (Bx.new (jj3 BX0.out hb));have B2:=mk0 hbox;have HG2:=mk0 (show w.heap.size≤gr from hgx ▸ HB.out.size);have HNE:=mk0 (show gr≠gx from fun e=>by have:=blk_lt BX0.out;rw [hgx] at e;omega);clear HB BX0 hgx hbox hb;have HB:=HB1;clear HB1)|((with_reducible refine jjz (t:=28) (p:=5) rfl ?_);refine BX.out.event 10 (.slice none 0 0) #[.string x.f0,.string x.f1,.slice A2 x.f2.length c2,.slice A3 x.f3.length c3,.slice A4 x.f4.length c4,.slice A5 x.f5.length c5,.slice A6 x.f6.length c6,.slice A7 x.f7.length c7,.string x.f8,.slice A9 x.f9.length c9,.slice none 0 0] ?_;intro wc hX hg hB;have HB1:=mk0 (hB _ _ HGX.out HB.out);clear HB BX;have HB:=HB1;have BX:=mk0 hX;clear HB1 hX hg hB))
 obtain ⟨n1,hn1⟩:∃ z,z=wb.heap.size:=⟨_,rfl⟩
 have HN1:=mk0 hn1
 have HNX:Aside0 (∀ k,okB okc w.heap.size n1 k→k≠gx):=⟨okB_ne HGX.out (by rw [hn1];exact BX.out.glt)⟩
 have HN2:Aside0 (∀ k,okB okc w.heap.size n1 k→k≠gr):=⟨okB_ne HG2.out (by rw [hn1];exact blk_lt B2.out)⟩
 have HNL:=mk0 (show w.heap.size≤n1 from by rw [hn1];exact Nat.le_trans HG2.out (Nat.le_of_lt (blk_lt B2.out)))
 have G2:=mk0 (okB_of (n1:=n1) g2 rfl HB.out)
 have G3:=mk0 (okB_of (n1:=n1) g3 rfl HB.out)
 have G4:=mk0 (okB_of (n1:=n1) g4 rfl HB.out)
 have G5:=mk0 (okB_of (n1:=n1) g5 rfl HB.out)
 have G6:=mk0 (okB_of (n1:=n1) g6 rfl HB.out)
 have G7:=mk0 (okB_of (n1:=n1) g7 rfl HB.out)
 have G9:=mk0 (okB_of (n1:=n1) g9 rfl HB.out)
 have B3:=mk0 ((BX.out.touch gr (blk_lt B2.out) HNE.out).trans B2.out)
 have HS:=mk0 (show n1≤wc.heap.size from by rw [hn1];exact BX.out.size)
 have BX1:=mk0 BX.out.rebase
 clear B2 BX hn1 g2 g3 g4 g5 g6 g7 g9 g10
 have B2:=B3
 have BX:=BX1
 clear B3 BX1
 refine start_ (n:=15) (S:=fun w'=>w'.cell? ⟨gx,4,none⟩=some (.slice A4 x.f4.length c4)∧w'.cell? ⟨gx,5,none⟩=some (.slice A5 x.f5.length c5)∧w'.cell? ⟨gx,7,none⟩=some (.slice A7 x.f7.length c7)) (ds:=[10,12,14]) (bzs 15 0) (by kernel_rfl) rfl rfl ⟨(BX.out.cell 4 rfl),(BX.out.cell 5 rfl),(BX.out.cell 7 rfl)⟩ (fun hHeld=>?_)
 refine with_tabW clean.tab2 clean.bits2 (fun HT_ HW_=>?_)
 replace HB:=mk0 (jj2 HB.out)
 replace BX:=mk0 (BX.out.below (jj2 (Below.refl _ _)))
 generalize wc.drew=wq at HB BX hHeld ⊢
 refine pzS 0 (some 6) (bzs 15 1) HT_ ?_
 refine pzS 3 (some 9) (bzs 15 9) HT_ ?_
 refine pzS 6 (some 12) (bzs 15 73) HT_ ?_
 refine tzS 1 (some 7) (bzs 15 75) HT_ HW_ hHeld ?_
 refine tzS 4 (some 10) (bzs 15 91) HT_ HW_ hHeld ?_
 refine tzS 7 (some 13) (bzs 15 219) HT_ HW_ hHeld ?_
 refine one_ (i:=2) (N:=some 8) (bzs 15 223) rfl rfl (jk2 HT_.out (by kernel_rfl)) (by decide) (fun K hK=>?_)
 refine gzO Try.func19 #[.slice A4 x.f4.length c4,.int .i64 1] ?_
 refine (cleanMessages_c 64 1 (by decide) (by decide) x.f4 HL.out.1 _ A4 c4 wq (BX.out.F HNX.out G4.out)).mono ?_
 rintro e w2 ⟨F4,e4,rfl,he,hF,hb⟩
 refine ⟨_,rfl,?_⟩
 have HF4:=mk0 (BX.out.Fcall (ok:=okB okc w.heap.size n1) (fun k hk=>okB_fr (Nat.le_trans HS.out hk)) hF)
 replace HB:=mk0 (jj1 HB.out HB.out.size hb)
 replace BX:=mk0 (BX.out.below hb)
 have HE4:=mk0 he
 clear hF hb he
 refine hK.out _ _ ⟨(BX.out.cell 4 rfl),(BX.out.cell 5 rfl),(BX.out.cell 7 rfl)⟩ (fun hHeld=>?_)
 clear hK K
 refine nzS (some 8) ?_
 refine pzS 9 (some 15) (bzs 15 735) HT_ ?_
 refine one_ (i:=5) (N:=some 11) (bzs 15 767) rfl rfl (jk2 HT_.out (by kernel_rfl)) (by decide) (fun K hK=>?_)
 refine gzO Try.func20 #[.slice A5 x.f5.length c5] ?_
 refine (cleanEnums_c x.f5 HL.out.2.1 HL.out.2.2.1 _ A5 c5 w2 (BX.out.F HNX.out G5.out)).mono ?_
 rintro e w2 ⟨F5,e5,rfl,he,hF,hb⟩
 refine ⟨_,rfl,?_⟩
 have HF5:=mk0 (BX.out.Fcall (ok:=okB okc w.heap.size n1) (fun k hk=>okB_fr (Nat.le_trans HS.out hk)) hF)
 replace HB:=mk0 (jj1 HB.out HB.out.size hb)
 replace BX:=mk0 (BX.out.below hb)
 replace HF4:=mk0 (jk3 HF4.out hb)
 have HE5:=mk0 he
 clear hF hb he
 refine hK.out _ _ ⟨(BX.out.cell 4 rfl),(BX.out.cell 5 rfl),(BX.out.cell 7 rfl)⟩ (fun hHeld=>?_)
 clear hK K
 refine nzS (some 11) ?_
 refine one_ (i:=8) (N:=some 14) (bzs 15 1023) rfl rfl (jk2 HT_.out (by kernel_rfl)) (by decide) (fun K hK=>?_)
 refine gzO Try.func21 #[.slice A7 x.f7.length c7] ?_
 refine (cleanFields_c x.f7 HL.out.2.2.2.2.2 _ A7 c7 w2 (BX.out.F HNX.out G7.out)).mono ?_
 rintro e w2 ⟨F7,e7,rfl,he,hF,hb⟩
 refine ⟨_,rfl,?_⟩
 have HF7:=mk0 (BX.out.Fcall (ok:=okB okc w.heap.size n1) (fun k hk=>okB_fr (Nat.le_trans HS.out hk)) hF)
 replace HB:=mk0 (jj1 HB.out HB.out.size hb)
 replace BX:=mk0 (BX.out.below hb)
 replace HF4:=mk0 (jk3 HF4.out hb)
 replace HF5:=mk0 (jk3 HF5.out hb)
 have HE7:=mk0 he
 clear hF hb he
 refine hK.out _ _ ⟨(BX.out.cell 4 rfl),(BX.out.cell 5 rfl),(BX.out.cell 7 rfl)⟩ (fun hHeld=>?_)
 clear hK K
 refine nzS (some 14) ?_
 refine last_ (i:=10) (N:=none) (bzs 15 2047) rfl rfl (jk2 HT_.out (by kernel_rfl)) (by decide) (fun K hK=>?_)
 refine BX.out.estep 4 (.slice F4 (clMs 64 x.f4).length e4) #[.string x.f0,.string x.f1,.slice A2 x.f2.length c2,.slice A3 x.f3.length c3,.slice F4 (clMs 64 x.f4).length e4,.slice A5 x.f5.length c5,.slice A6 x.f6.length c6,.slice A7 x.f7.length c7,.string x.f8,.slice A9 x.f9.length c9,.slice none 0 0] ?_
 intro w3 hX hg hB
 replace HB:=mk0 (hB _ _ HGX.out HB.out)
 replace BX:=mk0 (hX)
 replace HF4:=mk0 (jj8 HNX.out HF4.out hg)
 replace HF5:=mk0 (jj8 HNX.out HF5.out hg)
 replace HF7:=mk0 (jj8 HNX.out HF7.out hg)
 clear hX hg hB
 refine hK.out _ _ ?_
 clear hK K
 refine pzS 11 (some 16) (bzs 15 4095) HT_ ?_
 refine last_ (i:=12) (N:=none) (bzs 15 8191) rfl rfl (jk2 HT_.out (by kernel_rfl)) (by decide) (fun K hK=>?_)
 refine BX.out.estep 5 (.slice F5 x.f5.length e5) #[.string x.f0,.string x.f1,.slice A2 x.f2.length c2,.slice A3 x.f3.length c3,.slice F4 (clMs 64 x.f4).length e4,.slice F5 x.f5.length e5,.slice A6 x.f6.length c6,.slice A7 x.f7.length c7,.string x.f8,.slice A9 x.f9.length c9,.slice none 0 0] ?_
 intro w3 hX hg hB
 replace HB:=mk0 (hB _ _ HGX.out HB.out)
 replace BX:=mk0 (hX)
 replace HF4:=mk0 (jj8 HNX.out HF4.out hg)
 replace HF5:=mk0 (jj8 HNX.out HF5.out hg)
 replace HF7:=mk0 (jj8 HNX.out HF7.out hg)
 clear hX hg hB
 refine hK.out _ _ ?_
 clear hK K
 refine pzS 13 (some 17) (bzs 15 16383) HT_ ?_
 refine last_ (i:=14) (N:=none) (bzs 15 32767) rfl rfl (jk2 HT_.out (by kernel_rfl)) (by decide) (fun K hK=>?_)
 refine BX.out.estep 7 (.slice F7 x.f7.length e7) #[.string x.f0,.string x.f1,.slice A2 x.f2.length c2,.slice A3 x.f3.length c3,.slice F4 (clMs 64 x.f4).length e4,.slice F5 x.f5.length e5,.slice A6 x.f6.length c6,.slice F7 x.f7.length e7,.string x.f8,.slice A9 x.f9.length c9,.slice none 0 0] ?_
 intro w3 hX hg hB
 replace HB:=mk0 (hB _ _ HGX.out HB.out)
 replace BX:=mk0 (hX)
 replace HF4:=mk0 (jj8 HNX.out HF4.out hg)
 replace HF5:=mk0 (jj8 HNX.out HF5.out hg)
 replace HF7:=mk0 (jj8 HNX.out HF7.out hg)
 clear hX hg hB
 refine hK.out _ _ ?_
 clear hK K
 refine done_ (done_of HT_.out (by kernel_rfl)) ?_
 have B3:=mk0 ((BX.out.touch gr (blk_lt B2.out) HNE.out).trans B2.out)
 have n2_:=mk0 (BX.out.F2 HNX.out G2.out)
 have n3_:=mk0 (BX.out.F2 HNX.out G3.out)
 have n6_:=mk0 (BX.out.F2 HNX.out G6.out)
 have n9_:=mk0 (BX.out.F2 HNX.out G9.out)
 have HS1:=mk0 (Nat.le_trans HS.out BX.out.size)
 have BX1:=mk0 BX.out.rebase
 clear B2 BX HS G2 G3 G4 G5 G6 G7 G9
 have B2:=B3
 have BX:=BX1
 have HS:=HS1
 clear B3 BX1 HS1
 have G2:=n2_
 have G3:=n3_
 have G6:=n6_
 have G9:=n9_
 clear n2_ n3_ n6_ n9_
 have k6_:w3.cell? ⟨gx,6,none⟩=some (.slice A6 x.f6.length c6:Value):=BX.out.cell 6 rfl
 go_wp2_with (first|((with_reducible refine jk0 (N:=20) rfl ?_);refine Kd.N_append_rows k51 (w0:=w3) w3.heap.size rfl (.const (.slice none 0 0)) (.tmp 19) 26 51 (.agg #[.string (⟨#[]⟩:ByteArray),.slice none 0 0,.slice none 0 0,.slice none 0 0]) 88 rfl Try.underlying26 ifoService rfl (by decide) (by decide) (.slice none 0 0) [] x.f6 A6 x.f6.length c6 (okB okc w.heap.size n1) (fun k=>okB okc w.heap.size n1 k∧k < w3.heap.size) rfl rfl (Kd.N_nil _ _ _ _ _) G6.out (fun k hk=>⟨hk.1,by simp [Value.ownBlock]⟩) (fun k hk=>okB_fr (Nat.le_trans HS.out hk)) (Below.refl _ _) ?aS ?aL ?_;(case aS=>exact Nat.le_refl _);(case aL=>have:=HL.out.2.2.2.1;simp only [List.length_nil];omega);intro v1 w4 hN hb hg hat;have HN:=mk0 (show Kd.N k51 51 w4 w3.heap.size (okB okc w.heap.size n1) v1 x.f6 from hN);have HB1:=mk0 (jj1 HB.out HB.out.size hb);have BX1:=mk0 (BX.out.below hb);clear HB BX k6_;have HB:=HB1;have BX:=BX1;clear HB1 BX1 hN hb hg hat;obtain ⟨AO,cO,rfl⟩:=Kd.N_slice HN.out)|((with_reducible refine jjz (t:=26) (p:=21) rfl ?_);refine BX.out.event 6 (.slice AO x.f6.length cO) #[.string x.f0,.string x.f1,.slice A2 x.f2.length c2,.slice A3 x.f3.length c3,.slice F4 (clMs 64 x.f4).length e4,.slice F5 x.f5.length e5,.slice AO x.f6.length cO,.slice F7 x.f7.length e7,.string x.f8,.slice A9 x.f9.length c9,.slice none 0 0] ?_;intro w5 hX hg hB;have HN1_:=mk0 (Kd.N_grown HN.out hg (fun k hk e=>HNX.out k hk (by injection e)));have HB1:=mk0 (hB _ _ HGX.out HB.out);clear HB BX HN;have HB:=HB1;have HN:=HN1_;have BX:=mk0 hX;clear HB1 HN1_ hX hg hB;have k6_:w5.cell? ⟨gx,6,none⟩=some (.slice AO x.f6.length cO:Value):=BX.out.cell 6 rfl))
 go_loopg [25] x.f6.length (fun kq v25 w'=>∃ i:Nat,v25 = .int .i64 (i:Int)∧Aside0 (i+kq=x.f6.length)∧Aside0 (Below w.heap.size w w')∧Aside0 (Bx 30 w3 gx w' #[.string x.f0,.string x.f1,.slice A2 x.f2.length c2,.slice A3 x.f3.length c3,.slice F4 (clMs 64 x.f4).length e4,.slice F5 x.f5.length e5,.slice AO x.f6.length cO,.slice F7 x.f7.length e7,.string x.f8,.slice A9 x.f9.length c9,.slice none 0 0])∧Aside0 (Kd.N k51 51 w' w3.heap.size (okB okc w.heap.size n1) (.slice AO x.f6.length cO) ((x.f6.take i).map clService++x.f6.drop i)))
 case atStart=>
  exact ⟨0,rfl,⟨by omega⟩,⟨HB.out⟩,⟨BX.out⟩,⟨HN.out⟩⟩
 case round=>
  clear HN HB BX k6_
  obtain ⟨i,rfl,HI,HB,BX,HN⟩:=hrel
  by_cases hlt:i < x.f6.length
  · have d0:=lt_d hlt
    have HLT:=mk0 hlt
    have p0:=le_p i
    have q0:=lt_p hlt
    have hwp:=mk0 (wrap_lt i x.f6.length hlt HL.out.2.2.2.1)
    obtain ⟨g,cap,ev,hbg,-⟩:=Kd.N_form HN.out (by rw [len_map];omega)
    injection ev with e1 e2 e3
    subst e1
    clear e2 e3
    obtain ⟨c,hcl,hH,hFK⟩:=Hl.new HN.out z51 hlt
    rw [get_map _ _ _ _ hlt] at hFK
    have hss:=set_map clService z51 x.f6 i hlt
    have hxm:x.f6.getD i z51∈x.f6:=by rw [List.getD_eq_getElem?_getD,List.getElem?_eq_getElem hlt];exact List.getElem_mem hlt
    obtain ⟨x_,hx⟩:∃ x_,x.f6.getD i z51=x_:=⟨_,rfl⟩
    rw [hx] at hFK hss hxm
    have HL2:=mk0 (HL.out.2.2.2.2.1 x_ hxm)
    have HSS:=mk0 hss
    obtain ⟨D1,q1,D2,q2,D3,q3,rfl,lq1,gq1,lq2,gq2,lq3,gq3⟩:=k51_openF hFK
    have HGB3:=mk0 hbg
    have HGB:=mk0 (show w.heap.size≤g from Nat.le_trans HNL.out (Nat.le_trans HS.out hbg))
    have HBO:=mk0 HB.out.size
    obtain ⟨wo,hwo⟩:∃ z,z=wr:=⟨_,rfl⟩
    rw [← hwo] at HBO gq1 gq2 gq3
    have HH:=mk0 (show Hl k51 51 wo w3.heap.size (okB okc w.heap.size n1) g x.f6.length cO ((x.f6.take i).map clService++x.f6.drop i) i wr [.string x_.f0,.slice D1 x_.f1.length q1,.slice D2 x_.f2.length q2,.slice D3 x_.f3.length q3] from by rw [hwo];exact hH)
    clear hss hx hxm hcl hH hbg HN hwo hFK
    have k6_:wr.cell? ⟨gx,6,none⟩=some (.slice (some ⟨g,0,none⟩) x.f6.length cO:Value):=BX.out.cell 6 rfl
    cases gk with
    | zero=>exact absurd HI.out (fun h=>Nat.ne_of_lt hlt h)
    | succ k1=>
     go_wp2_with (first|((with_reducible refine jjz (t:=28) (p:=32) rfl ?_);refine HH.out.event 3 (.slice none 0 0) (c':=[.string x_.f0,.slice D1 x_.f1.length q1,.slice D2 x_.f2.length q2,.slice none 0 0]) ?_ rfl rfl ?of rfl (by decide) rfl rfl (by kernel_rfl) rfl rfl rfl;(case of=>first|rfl|(show _=i*4+3;omega));intro w6 hH hg hB;have n0_:=mk0 (hB _ _ HGB.out HB.out);have n1_:=mk0 (BX.out.grown hg HGB3.out);clear HB BX HH k6_;have HB:=n0_;have BX:=n1_;have HH:=mk0 hH;clear n0_ n1_ hH hg hB))
     refine start_ (n:=13) (S:=fun w'=>w'.cell? ⟨gx,6,none⟩=some (.slice (some ⟨g,0,none⟩) x.f6.length cO)∧w'.cell? ⟨g,i*4+1,none⟩=some (.slice D1 x_.f1.length q1)) (ds:=[12]) (bzs 13 0) (by kernel_rfl) rfl rfl ⟨(BX.out.cell 6 rfl),(HH.out.cell 1 rfl)⟩ (fun hHeld=>?_)
     refine with_tabW clean.tab8 clean.bits8 (fun HT_ HW_=>?_)
     replace HB:=mk0 (jj2 HB.out)
     replace HH:=mk0 (HH.out.below (jj2 (Below.refl _ _)))
     replace BX:=mk0 (BX.out.below (jj2 (Below.refl _ _)))
     generalize w6.drew=wq at HB HH hHeld BX ⊢
     refine pzS 0 (some 33) (bzs 13 1) HT_ ?_
     refine pzS 2 (some 35) (bzs 13 5) HT_ ?_
     refine pzS 3 (some 36) (bzs 13 13) HT_ ?_
     refine pzS 5 (some 38) (bzs 13 45) HT_ ?_
     refine tzS 1 (some 34) (bzs 13 47) HT_ HW_ hHeld ?_
     refine tzS 4 (some 37) (bzs 13 63) HT_ HW_ hHeld ?_
     refine pzS 6 (some 39) (bzs 13 127) HT_ ?_
     refine pzS 7 (some 40) (bzs 13 255) HT_ ?_
     refine tzS 8 (some 41) (bzs 13 511) HT_ HW_ hHeld ?_
     refine one_ (i:=9) (N:=some 42) (bzs 13 1023) rfl rfl (jk2 HT_.out (by kernel_rfl)) (by decide) (fun K hK=>?_)
     refine Kd.N_append_rows_step k53 (w0:=wq) wq.heap.size (by rfl) (.const (.slice none 0 0)) (.tmp 41) 49 53 (.agg #[.string (⟨#[]⟩:ByteArray),.string (⟨#[]⟩:ByteArray),.string (⟨#[]⟩:ByteArray),.bool false,.bool false,.slice none 0 0,.slice none 0 0]) 104 rfl Try.underlying49 ifoMethod rfl (by decide) (by decide) (.slice none 0 0) [] x_.f1 D1 x_.f1.length q1 (fun k=>okB okc w.heap.size n1 k∧k≠g) (fun k=>okB okc w.heap.size n1 k∧k < wo.heap.size∧k≠g) rfl rfl (Kd.N_nil _ _ _ _ _) (HH.out.F gq1) (fun k hk=>⟨⟨hk.1,hk.2.2⟩,by simp [Value.ownBlock]⟩) (fun k hk=>⟨okB_fr (Nat.le_trans (Nat.le_trans HS.out BX.out.size) hk),fun e=>Nat.lt_irrefl _ (Nat.lt_of_lt_of_le (e ▸ Nat.lt_of_lt_of_le HH.out.glt HH.out.size) hk)⟩) (Below.refl _ _) (Nat.le_refl _) (by have:=HL2.out;simp only [List.length_nil];omega) ?_
     intro v1 w7 hN hb hg hat
     have HV:=mk0 (show Kd.N k53 53 w7 wq.heap.size (fun k=>okB okc w.heap.size n1 k∧k≠g) v1 x_.f1 from hN)
     have HNB:=mk0 HH.out.size
     have HNB3:=mk0 BX.out.size
     replace HB:=mk0 (jj1 HB.out HB.out.size hb)
     replace HH:=mk0 (HH.out.below hb)
     replace BX:=mk0 (BX.out.below hb)
     clear hN hb hg hat
     obtain ⟨BI,dI,rfl⟩:=Kd.N_slice HV.out
     refine hK.out _ _ ⟨(BX.out.cell 6 rfl),(HH.out.cell 1 rfl)⟩ (fun hHeld=>?_)
     clear hK K
     refine nzS (some 42) ?_
     refine pzS 10 (some 43) (bzs 13 2047) HT_ ?_
     refine pzS 11 (some 44) (bzs 13 4095) HT_ ?_
     refine last_ (i:=12) (N:=none) (bzs 13 8191) rfl rfl (jk2 HT_.out (by kernel_rfl)) (by decide) (fun K hK=>?_)
     refine HH.out.estep 1 (.slice BI x_.f1.length dI) (c':=[.string x_.f0,.slice BI x_.f1.length dI,.slice D2 x_.f2.length q2,.slice none 0 0]) ?_ (by rfl) rfl rfl rfl ?of rfl (by decide) rfl rfl (by kernel_rfl) rfl
     case of=>first|rfl|(show _=i*4+1;omega)
     intro w8 hH hg hB
     replace HB:=mk0 (hB _ _ HGB.out HB.out)
     replace HH:=mk0 (hH)
     replace BX:=mk0 (BX.out.grown hg HGB3.out)
     replace HV:=mk0 (Kd.N_grown HV.out hg (fun k hk e=>hk.2 (by injection e)))
     clear hH hg hB
     refine hK.out _ _ ?_
     clear hK K
     refine done_ (done_of HT_.out (by kernel_rfl)) ?_
     have HI1:=HI
     have hwp1:=hwp
     clear HI hwp
     have k6_:w8.cell? ⟨gx,6,none⟩=some (.slice (some ⟨g,0,none⟩) x.f6.length cO:Value):=BX.out.cell 6 rfl
     have k1_:w8.cell? ⟨g,i*4+1,none⟩=some (.slice BI x_.f1.length dI:Value):=HH.out.cell 1 rfl
     go_wp2
     go_loopg [52] x_.f1.length (fun kq v52 w'=>∃ k:Nat,v52 = .int .i64 (k:Int)∧Aside0 (k+kq=x_.f1.length)∧Aside0 (Below w.heap.size w w')∧Aside0 (Bx 30 w3 gx w' #[.string x.f0,.string x.f1,.slice A2 x.f2.length c2,.slice A3 x.f3.length c3,.slice F4 (clMs 64 x.f4).length e4,.slice F5 x.f5.length e5,.slice (some ⟨g,0,none⟩) x.f6.length cO,.slice F7 x.f7.length e7,.string x.f8,.slice A9 x.f9.length c9,.slice none 0 0])∧Aside0 (Hl k51 51 wo w3.heap.size (okB okc w.heap.size n1) g x.f6.length cO ((x.f6.take i).map clService++x.f6.drop i) i w' [.string x_.f0,.slice BI x_.f1.length dI,.slice D2 x_.f2.length q2,.slice none 0 0])∧Aside0 (Kd.N k53 53 w' wq.heap.size (fun k=>okB okc w.heap.size n1 k∧k≠g) (.slice BI x_.f1.length dI) ((x_.f1.take k).map clMethod++x_.f1.drop k)))
     case atStart=>exact ⟨0,rfl,⟨by omega⟩,⟨HB.out⟩,⟨BX.out⟩,⟨HH.out⟩,⟨HV.out⟩⟩
     case round=>
      clear HB HH HV BX k1_ k6_
      obtain ⟨k,rfl,HI2,HB,BX,HH,HV⟩:=hrel
      by_cases hlt2:k < x_.f1.length
      · have hwp:=mk0 (wrap_lt k x_.f1.length hlt2 HL2.out)
        have dd1_:=lt_d hlt2
        have HLT2:=mk0 hlt2
        have p1:=le_p k
        have q2:=lt_p hlt2
        obtain ⟨g3,cap2,ev,hbg2,-⟩:=Kd.N_form HV.out (by rw [len_map];omega)
        injection ev with e1 e2 e3
        subst e1
        clear e2 e3
        obtain ⟨c,hcl,hFK,hcc,hfr⟩:=Kd.N_elem HV.out z53 (k:Int) (Int.natCast_nonneg _) (Int.ofNat_lt.2 hlt2)
        rw [Int.toNat_natCast,get_map _ _ _ _ hlt2] at hFK
        have hss:=set_map clMethod z53 x_.f1 k hlt2
        obtain ⟨u,hu⟩:∃ u,x_.f1.getD k z53=u:=⟨_,rfl⟩
        rw [hu] at hFK hss
        have HSS2:=mk0 hss
        have HCL:=mk0 hcl
        have HCC:=mk0 hcc
        have HFK:=mk0 (clMethod_FK hFK)
        clear hss hu hbg2 hcl hcc hFK hfr
        have k6_:wr.cell? ⟨gx,6,none⟩=some (.slice (some ⟨g,0,none⟩) x.f6.length cO:Value):=BX.out.cell 6 rfl
        have k1_:wr.cell? ⟨g,i*4+1,none⟩=some (.slice (some ⟨g3,0,none⟩) x_.f1.length dI:Value):=HH.out.cell 1 rfl
        cases gk with
        | zero=>exact absurd HI2.out (fun h=>Nat.ne_of_lt hlt2 h)
        | succ k2=>
         have hwp2:=hwp.out
         go_wp2_with (first|((with_reducible refine jjz (t:=28) (p:=63) rfl ?_);refine Kd.N_store k53 (w0:=wr) wq.heap.size rfl rfl 28 (.tmp 63) (.const (.slice none 0 0)) rfl 53 (k:Int) 6 _ (clMethod u) (.slice none 0 0) [.slice none 0 0] c (fun k=>okB okc w.heap.size n1 k∧k≠g) (fun k=>(okB okc w.heap.size n1 k∧k≠g)∧k≠g3) rfl ?of rfl rfl (by kernel_rfl) (fun q hq=>by rw [List.mem_singleton.1 hq];rfl) HV.out (Int.natCast_nonneg _) (Int.ofNat_lt.2 HLT2.out) HCL.out HCC.out (by decide) HFK.out (fun _ h=>h) (Below.refl _ _) ?_;(case of=>rw [Int.toNat_natCast];first|rfl|(show _=k*7+6;omega));intro wd hN hb hg;have n0_:=mk0 hN;have n1_:=mk0 (HH.out.belowN hb HNB.out);have n2_:=mk0 (HB.out.trans (hb.mono (Nat.le_trans HBO.out HNB.out)));have n3_:=mk0 (BX.out.belowN hb HNB3.out);clear HV HH HB BX;have HV:=n0_;have HH:=n1_;have HB:=n2_;have BX:=n3_;clear n0_ n1_ n2_ n3_ hN hb hg))
         go_roundg k2
         case measure=>exact Nat.lt_succ_self k2
         case rel=>exact ⟨k+1,(by first|rfl|(rw [hwp2])|(simp [hwp2];done)),⟨(Nat.add_right_comm k 1 k2).trans HI2.out⟩,⟨HB.out⟩,⟨BX.out⟩,⟨HH.out⟩,⟨by have h_:=HV.out;rw [Int.toNat_natCast,HSS2.out] at h_;exact h_⟩⟩
      · have dd1_:=ge_d hlt2
        have hwp2:=hwp1.out
        have hv:=HV.out
        rw [end_map _ _ _ hlt2] at hv
        have HV1:=mk0 hv
        clear hv HV
        go_wp2
        go_roundg k1
        case measure=>exact Nat.lt_succ_self k1
        case rel=>
         have hN:=HH.out.fill (x':=clService x_) (okp:=fun k=>okB okc w.heap.size n1 k∧k≠g) (by have h_:=k51_mkF wr (fun k=>okB okc w.heap.size n1 k∧k≠g) (clService x_) (le_map (show x_.f1.length≤dI from by have h_:=(Kd.N_reads' HV1.out).2.1;exact h_)) (F_map (Kd.N_F HV1.out)) lq2 (Kd.F_mono (HH.out.F gq2) (fun k hk=>⟨hk.1,hk.2.2⟩)) (Nat.le_refl 0) (F_nil8 _ _);rw [show (clService x_).f1.length=x_.f1.length from List.length_map ..] at h_;exact h_) (fun _ h=>h)
         rw [HSS.out] at hN
         exact ⟨i+1,(by first|rfl|(rw [hwp2])|(simp [hwp2];done)),⟨(Nat.add_right_comm i 1 k1).trans HI1.out⟩,⟨HB.out⟩,⟨BX.out⟩,⟨hN⟩⟩
  · have d0:=ge_d hlt
    have hN:=HN.out
    rw [end_map _ _ _ hlt] at hN
    have HN3:=mk0 hN
    clear hN HN
    have B3:=mk0 ((BX.out.touch gr (blk_lt B2.out) HNE.out).trans B2.out)
    have p0_:wr.cell? ⟨gx,0,none⟩=some (.string x.f0:Value):=BX.out.cell 0 rfl
    have p1_:wr.cell? ⟨gx,1,none⟩=some (.string x.f1:Value):=BX.out.cell 1 rfl
    have p2_:wr.cell? ⟨gx,2,none⟩=some (.slice A2 x.f2.length c2:Value):=BX.out.cell 2 rfl
    have p3_:wr.cell? ⟨gx,3,none⟩=some (.slice A3 x.f3.length c3:Value):=BX.out.cell 3 rfl
    have p4_:wr.cell? ⟨gx,4,none⟩=some (.slice F4 (clMs 64 x.f4).length e4:Value):=BX.out.cell 4 rfl
    have p5_:wr.cell? ⟨gx,5,none⟩=some (.slice F5 x.f5.length e5:Value):=BX.out.cell 5 rfl
    have p6_:wr.cell? ⟨gx,6,none⟩=some (.slice AO x.f6.length cO:Value):=BX.out.cell 6 rfl
    have p7_:wr.cell? ⟨gx,7,none⟩=some (.slice F7 x.f7.length e7:Value):=BX.out.cell 7 rfl
    have p8_:wr.cell? ⟨gx,8,none⟩=some (.string x.f8:Value):=BX.out.cell 8 rfl
    have p9_:wr.cell? ⟨gx,9,none⟩=some (.slice A9 x.f9.length c9:Value):=BX.out.cell 9 rfl
    have p10_:wr.cell? ⟨gx,10,none⟩=some (.slice none 0 0:Value):=BX.out.cell 10 rfl
    go_wp2_with (first|((with_reducible refine jjz (t:=30) (p:=2) rfl ?_);refine Sw.store_whole rfl rfl rfl gr 30 _ _ rfl rfl B3.out (by kernel_rfl) rfl rfl ?_;intro w9 hS_ hbS_ hkS_;have B9:=mk0 hS_;have HB9:=mk0 (hbS_ _ _ HG2.out HB.out);have HK9:=mk0 hkS_;clear hS_ hbS_ hkS_))
    refine bodyPost_ret (res_c1 rfl _ _ gr 30 #[.string x.f0,.string x.f1,.slice A2 x.f2.length c2,.slice A3 x.f3.length c3,.slice F4 (clMs 64 x.f4).length e4,.slice F5 x.f5.length e5,.slice AO x.f6.length cO,.slice F7 x.f7.length e7,.string x.f8,.slice A9 x.f9.length c9,.slice none 0 0] (0,0) _ rfl B9.out Try.underlying30 rfl (by kernel_rfl)) rfl ?_
    have fin:∀ {β:Type} {d':Kd β} {A:Option Addr} {m:Nat} {ys:List β},Kd.F d' w3 (fun k=>okB okc w.heap.size n1 k∧k < w3.heap.size) A m ys→Kd.F d' w9 (okN okc w.heap.size) A m ys:=fun hF=>Kd.F_mono (Kd.F_step (BX.out.F HNX.out hF) (fun k hk _=>HK9.out k (HN2.out k hk.1))) (fun k hk=>okB_in HNL.out hk.1)
    refine ⟨[.string x.f0,.string x.f1,.slice A2 x.f2.length c2,.slice A3 x.f3.length c3,.slice F4 (clMs 64 x.f4).length e4,.slice F5 x.f5.length e5,.slice AO x.f6.length cO,.slice F7 x.f7.length e7,.string x.f8,.slice A9 x.f9.length c9,.slice none 0 0],rfl,?_,HB9.out⟩
    have h_:=k30_mkF w9 (okN okc w.heap.size) (clFile x) l2 (fin G2.out) l3 (fin G3.out) HE4.out (fin HF4.out) (le_map HE5.out) (F_map (fin HF5.out)) (le_map (show x.f6.length≤cO from by have h_:=(Kd.N_reads' HN3.out).2.1;exact h_)) (F_map (Kd.F_mono (Kd.F_step (Kd.N_F HN3.out) (fun k hk _=>HK9.out k (HN2.out k hk))) (fun k hk=>okB_in HNL.out hk))) (le_map HE7.out) (F_map (fin HF7.out)) l9 (fin G9.out) (A10:=none) (c10:=0) (Nat.le_refl 0) (F_nil8 _ _)
    rw [show (clFile x).f5.length=x.f5.length from List.length_map ..,show (clFile x).f6.length=x.f6.length from List.length_map ..,show (clFile x).f7.length=x.f7.length from List.length_map ..] at h_
    exact h_
end Go.Proofs.Ytheoafenehckbaa.Ur
