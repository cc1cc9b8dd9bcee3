/- undesc's cleaning of the small structs. -/
import Derived.Test.YtheoafenehckbaaQDc
import Derived.Test.YtheoafenehckbaaQSh
import Derived.Test.YtheoafenehckbaaQHg
import Derived.LoopN
import Derived.RegionTactic
set_option maxHeartbeats 8000000
set_option maxRecDepth 100000
namespace Go.Proofs.Ytheoafenehckbaa.Ur
open Go.RowKit GUndescBack YtheoafenehckbaaW.PrintWords YtheoafenehckbaaW.PrintLast YtheoafenehckbaaW.PrintMore Rk
set_option linter.unusedVariables false
set_option linter.unusedSimpArgs false
theorem bnField {x:S88} {N:Nat} (h:bk88 x≤N):x.f11.length≤N∧x.f12.length≤N:=by
 unfold bk88 at h
 have h11_:=lensum (fun _=>1) (fun _=>by exact Nat.le_refl _) x.f11
 have h12_:=lensum (fun _=>1) (fun _=>by exact Nat.le_refl _) x.f12
 exact ⟨by omega,by omega⟩
theorem bnValue {x:S93} {N:Nat} (h:bk93 x≤N):x.f2.length≤N∧x.f3.length≤N:=by
 unfold bk93 at h
 have h2_:=lensum (fun _=>1) (fun _=>by exact Nat.le_refl _) x.f2
 have h3_:=lensum (fun _=>1) (fun _=>by exact Nat.le_refl _) x.f3
 exact ⟨by omega,by omega⟩
theorem bnOneof {x:S91} {N:Nat} (h:bk91 x≤N):x.f1.length≤N∧x.f2.length≤N:=by
 unfold bk91 at h
 have h1_:=lensum (fun _=>1) (fun _=>by exact Nat.le_refl _) x.f1
 have h2_:=lensum (fun _=>1) (fun _=>by exact Nat.le_refl _) x.f2
 exact ⟨by omega,by omega⟩
theorem bnMethod {x:S53} {N:Nat} (h:bk53 x≤N):x.f5.length≤N∧x.f6.length≤N:=by
 unfold bk53 at h
 have h5_:=lensum (fun _=>1) (fun _=>by exact Nat.le_refl _) x.f5
 have h6_:=lensum (fun _=>1) (fun _=>by exact Nat.le_refl _) x.f6
 exact ⟨by omega,by omega⟩
theorem bnEnum {x:S82} {N:Nat} (h:bk82 x≤N):(x.f1.map bk93).sum≤N∧x.f2.length≤N∧x.f3.length≤N:=by
 unfold bk82 at h
 have h2_:=lensum (fun _=>1) (fun _=>by exact Nat.le_refl _) x.f2
 have h3_:=lensum (fun _=>1) (fun _=>by exact Nat.le_refl _) x.f3
 exact ⟨by omega,by omega,by omega⟩
theorem bnService {x:S51} {N:Nat} (h:bk51 x≤N):(x.f1.map bk53).sum≤N∧x.f2.length≤N∧x.f3.length≤N:=by
 unfold bk51 at h
 have h2_:=lensum (fun _=>1) (fun _=>by exact Nat.le_refl _) x.f2
 have h3_:=lensum (fun _=>1) (fun _=>by exact Nat.le_refl _) x.f3
 exact ⟨by omega,by omega,by omega⟩
theorem bnMessage {x:S76} {N:Nat} (h:bk76 x≤N):(x.f1.map bk88).sum≤N∧(x.f2.map bk76).sum≤N∧(x.f3.map bk82).sum≤N∧(x.f4.map bk115).sum≤N∧(x.f5.map bk88).sum≤N∧(x.f6.map bk91).sum≤N∧(x.f7.map bk115).sum≤N∧x.f8.length≤N∧x.f9.length≤N∧x.f10.length≤N:=by
 rw [bk76_eq] at h
 have h8_:=lensum (fun y:ByteArray=>y.size+1) (fun _=>by omega) x.f8
 have h9_:=lensum (fun _=>1) (fun _=>by exact Nat.le_refl _) x.f9
 have h10_:=lensum (fun _=>1) (fun _=>by exact Nat.le_refl _) x.f10
 exact ⟨by omega,by omega,by omega,by omega,by omega,by omega,by omega,by omega,by omega,by omega⟩
theorem bnFile {x:S30} {N:Nat} (h:bk30 x≤N):x.f2.length≤N∧x.f3.length≤N∧(x.f4.map bk76).sum≤N∧(x.f5.map bk82).sum≤N∧(x.f6.map bk51).sum≤N∧(x.f7.map bk88).sum≤N∧x.f9.length≤N∧x.f10.length≤N:=by
 unfold bk30 at h
 have h2_:=lensum (fun y:ByteArray=>y.size+1) (fun _=>by omega) x.f2
 have h3_:=lensum (fun _=>1) (fun _=>by exact Nat.le_refl _) x.f3
 have h9_:=lensum (fun _=>1) (fun _=>by exact Nat.le_refl _) x.f9
 have h10_:=lensum (fun _=>1) (fun _=>by exact Nat.le_refl _) x.f10
 exact ⟨by omega,by omega,by omega,by omega,by omega,by omega,by omega,by omega⟩
theorem clnField_c (x:S88) (hbk:bk88 x≤4294967296) (okc:Nat→Prop) (w:World) (cs:List Value) (hx:Kd.FK k88 w okc x cs) :
 Calls Try.prog 49 #[.agg cs.toArray] w fun e w'=>∃ cs':List Value,e = .returned (.agg cs'.toArray)∧Kd.FK k88 w' (okN okc w.heap.size) (clField x) cs'∧Below w.heap.size w w':=by
 obtain ⟨A11,c11,A12,c12,rfl,l11,g11,l12,g12⟩:=k88_openF hx
 have HL:=mk0 (bnField hbk)
 clear hbk
 go_enter Try.func49,Try.ntmps49
 go_wp2_with (first|((with_reducible refine jk0 (N:=1) rfl ?_);refine bzX 1 #[.string x.f0,.int .i64 x.f1,.int .i64 x.f2,.int .i64 x.f3,.string x.f4,.string x.f5,.string x.f6,.bool x.f7,.int .i64 x.f8,.string x.f9,.bool x.f10,.slice A11 x.f11.length c11,.slice A12 x.f12.length c12] 88 ?_;intro gx hgx wa hbox hb;have HB:=mk0 hb;have BX0:=mk0 hbox;have HGX:=mk0 (Nat.le_of_eq hgx.symm);clear hgx hbox hb)|((with_reducible refine jk0 (N:=2) rfl ?_);refine bzX 2 #[.string (⟨#[]⟩:ByteArray),.int .i64 0,.int .i64 0,.int .i64 0,.string (⟨#[]⟩:ByteArray),.string (⟨#[]⟩:ByteArray),.string (⟨#[]⟩:ByteArray),.bool false,.int .i64 0,.string (⟨#[]⟩:ByteArray),.bool false,.slice none 0 0,.slice none 0 0] 88 ?_;intro gr hgx w0 hbox hb;have HB1:=mk0 (jj1 HB.out HB.out.size hb);have BX:=mk0 (Bx.new (jj3 BX0.out hb));have B2:=mk0 hbox;have HG2:=mk0 (show w.heap.size≤gr from hgx ▸ HB.out.size);have HNE:=mk0 (show gr≠gx from fun e=>by have:=blk_lt BX0.out;rw [hgx] at e;omega);clear HB BX0 hgx hbox hb;have HB:=HB1;clear HB1;have k11_:w0.cell? ⟨gx,11,none⟩=some (.slice A11 x.f11.length c11:Value):=BX.out.cell 11 rfl))
 obtain ⟨n1,hn1⟩:∃ z,z=w0.heap.size:=⟨_,rfl⟩
 have HNX:Aside0 (∀ k,okB okc w.heap.size n1 k→k≠gx):=⟨okB_ne HGX.out (by rw [hn1];exact BX.out.glt)⟩
 have HN2:Aside0 (∀ k,okB okc w.heap.size n1 k→k≠gr):=⟨okB_ne HG2.out (by rw [hn1];exact blk_lt B2.out)⟩
 have HNL:=mk0 (show w.heap.size≤n1 from by rw [hn1];exact Nat.le_trans HG2.out (Nat.le_of_lt (blk_lt B2.out)))
 have HFR:Aside0 (∀ k,w0.heap.size≤k→okB okc w.heap.size n1 k):=⟨fun k hk=>okB_fr (by rw [hn1];exact hk)⟩
 have G11:=mk0 (okB_of (n1:=n1) g11 rfl HB.out)
 have G12:=mk0 (okB_of (n1:=n1) g12 rfl HB.out)
 clear hn1 g11 g12 k11_
 refine (clone8_c x.f11 HL.out.1 _ A11 c11 w0 (BX.out.F HNX.out G11.out)).mono ?_
 rintro e w1 ⟨F11,e11,rfl,he,hF,hb⟩
 have HFn:=mk0 (BX.out.Fcall (ok:=okB okc w.heap.size n1) HFR.out hF)
 replace HB:=mk0 (jj1 HB.out HB.out.size hb)
 replace BX:=mk0 (BX.out.below hb)
 have HF11:=HFn
 have HE11:=mk0 he
 clear hF hb he HFn
 go_wp2_with (first|((with_reducible refine jjz (t:=28) (p:=6) rfl ?_);refine BX.out.event 11 (.slice F11 x.f11.length e11) #[.string x.f0,.int .i64 x.f1,.int .i64 x.f2,.int .i64 x.f3,.string x.f4,.string x.f5,.string x.f6,.bool x.f7,.int .i64 x.f8,.string x.f9,.bool x.f10,.slice F11 x.f11.length e11,.slice A12 x.f12.length c12] ?_;intro w2 hX hg hB;replace HB:=mk0 (hB _ _ HGX.out HB.out);replace BX:=mk0 (hX);replace HF11:=mk0 (jj8 HNX.out HF11.out hg);clear hX hg hB)|((with_reducible refine jjz (t:=28) (p:=7) rfl ?_);refine BX.out.event 12 (.slice none 0 0) #[.string x.f0,.int .i64 x.f1,.int .i64 x.f2,.int .i64 x.f3,.string x.f4,.string x.f5,.string x.f6,.bool x.f7,.int .i64 x.f8,.string x.f9,.bool x.f10,.slice F11 x.f11.length e11,.slice none 0 0] ?_;intro w3 hX hg hB;replace HB:=mk0 (hB _ _ HGX.out HB.out);replace BX:=mk0 (hX);replace HF11:=mk0 (jj8 HNX.out HF11.out hg);clear hX hg hB;have B3:=mk0 ((BX.out.touch gr (blk_lt B2.out) HNE.out).trans B2.out))|((with_reducible refine gate_load (ty:=88) (p:=1) rfl ?_);refine load_box 88 1 gx _ _ BX.out.blk Try.underlying88 ?_)|((with_reducible refine jjz (t:=88) (p:=2) rfl ?_);refine Ur.store_box 88 2 8 gr #[.string x.f0,.int .i64 x.f1,.int .i64 x.f2,.int .i64 x.f3,.string x.f4,.string x.f5,.string x.f6,.bool x.f7,.int .i64 x.f8,.string x.f9,.bool x.f10,.slice F11 x.f11.length e11,.slice none 0 0] B3.out ?_;intro w9 hS hbS hkS;have B9:=mk0 hS;have HB9:=mk0 (hbS _ _ HG2.out HB.out);have HK9:=mk0 hkS;clear hS hbS hkS))
 refine bodyPost_ret (res_c1 rfl _ _ gr 88 #[.string x.f0,.int .i64 x.f1,.int .i64 x.f2,.int .i64 x.f3,.string x.f4,.string x.f5,.string x.f6,.bool x.f7,.int .i64 x.f8,.string x.f9,.bool x.f10,.slice F11 x.f11.length e11,.slice none 0 0] (0,0) _ rfl B9.out Try.underlying88 rfl (by kernel_rfl)) rfl ?_
 have fin:∀ {β:Type} {d':Kd β} {A:Option Addr} {m:Nat} {ys:List β},Kd.F d' w0 (fun k=>okB okc w.heap.size n1 k∧k < w0.heap.size) A m ys→Kd.F d' w9 (okN okc w.heap.size) A m ys:=fun hF=>Kd.F_mono (Kd.F_step (BX.out.F HNX.out hF) (fun k hk _=>HK9.out k (HN2.out k hk.1))) (fun k hk=>okB_in HNL.out hk.1)
 have fix:∀ {β:Type} {d':Kd β} {A:Option Addr} {m:Nat} {ys:List β},Kd.F d' w3 (fun k=>okB okc w.heap.size n1 k∧k < w3.heap.size) A m ys→Kd.F d' w9 (okN okc w.heap.size) A m ys:=fun hF=>Kd.F_mono (Kd.F_step hF (fun k hk _=>HK9.out k (HN2.out k hk.1))) (fun k hk=>okB_in HNL.out hk.1)
 refine ⟨[.string x.f0,.int .i64 x.f1,.int .i64 x.f2,.int .i64 x.f3,.string x.f4,.string x.f5,.string x.f6,.bool x.f7,.int .i64 x.f8,.string x.f9,.bool x.f10,.slice F11 x.f11.length e11,.slice none 0 0],rfl,?_,HB9.out⟩
 have h_:=k88_mkF w9 (okN okc w.heap.size) (clField x) HE11.out (fix HF11.out) (A12:=none) (c12:=0) (Nat.le_refl 0) (F_nil8 _ _)
 exact h_
theorem clnValue_c (x:S93) (hbk:bk93 x≤4294967296) (okc:Nat→Prop) (w:World) (cs:List Value) (hx:Kd.FK k93 w okc x cs) :
 Calls Try.prog 70 #[.agg cs.toArray] w fun e w'=>∃ cs':List Value,e = .returned (.agg cs'.toArray)∧Kd.FK k93 w' (okN okc w.heap.size) (clValue x) cs'∧Below w.heap.size w w':=by
 obtain ⟨A2,c2,A3,c3,rfl,l2,g2,l3,g3⟩:=k93_openF hx
 have HL:=mk0 (bnValue hbk)
 clear hbk
 go_enter Try.func70,Try.ntmps70
 go_wp2_with (first|((with_reducible refine jk0 (N:=1) rfl ?_);refine bzX 1 #[.string x.f0,.int .i64 x.f1,.slice A2 x.f2.length c2,.slice A3 x.f3.length c3] 93 ?_;intro gx hgx wa hbox hb;have HB:=mk0 hb;have BX0:=mk0 hbox;have HGX:=mk0 (Nat.le_of_eq hgx.symm);clear hgx hbox hb)|((with_reducible refine jk0 (N:=2) rfl ?_);refine bzX 2 #[.string (⟨#[]⟩:ByteArray),.int .i64 0,.slice none 0 0,.slice none 0 0] 93 ?_;intro gr hgx w0 hbox hb;have HB1:=mk0 (jj1 HB.out HB.out.size hb);have BX:=mk0 (Bx.new (jj3 BX0.out hb));have B2:=mk0 hbox;have HG2:=mk0 (show w.heap.size≤gr from hgx ▸ HB.out.size);have HNE:=mk0 (show gr≠gx from fun e=>by have:=blk_lt BX0.out;rw [hgx] at e;omega);clear HB BX0 hgx hbox hb;have HB:=HB1;clear HB1;have k2_:w0.cell? ⟨gx,2,none⟩=some (.slice A2 x.f2.length c2:Value):=BX.out.cell 2 rfl))
 obtain ⟨n1,hn1⟩:∃ z,z=w0.heap.size:=⟨_,rfl⟩
 have HNX:Aside0 (∀ k,okB okc w.heap.size n1 k→k≠gx):=⟨okB_ne HGX.out (by rw [hn1];exact BX.out.glt)⟩
 have HN2:Aside0 (∀ k,okB okc w.heap.size n1 k→k≠gr):=⟨okB_ne HG2.out (by rw [hn1];exact blk_lt B2.out)⟩
 have HNL:=mk0 (show w.heap.size≤n1 from by rw [hn1];exact Nat.le_trans HG2.out (Nat.le_of_lt (blk_lt B2.out)))
 have HFR:Aside0 (∀ k,w0.heap.size≤k→okB okc w.heap.size n1 k):=⟨fun k hk=>okB_fr (by rw [hn1];exact hk)⟩
 have G2:=mk0 (okB_of (n1:=n1) g2 rfl HB.out)
 have G3:=mk0 (okB_of (n1:=n1) g3 rfl HB.out)
 clear hn1 g2 g3 k2_
 refine (clone8_c x.f2 HL.out.1 _ A2 c2 w0 (BX.out.F HNX.out G2.out)).mono ?_
 rintro e w1 ⟨F2,e2,rfl,he,hF,hb⟩
 have HFn:=mk0 (BX.out.Fcall (ok:=okB okc w.heap.size n1) HFR.out hF)
 replace HB:=mk0 (jj1 HB.out HB.out.size hb)
 replace BX:=mk0 (BX.out.below hb)
 have HF2:=HFn
 have HE2:=mk0 he
 clear hF hb he HFn
 go_wp2_with (first|((with_reducible refine jjz (t:=28) (p:=6) rfl ?_);refine BX.out.event 2 (.slice F2 x.f2.length e2) #[.string x.f0,.int .i64 x.f1,.slice F2 x.f2.length e2,.slice A3 x.f3.length c3] ?_;intro w2 hX hg hB;replace HB:=mk0 (hB _ _ HGX.out HB.out);replace BX:=mk0 (hX);replace HF2:=mk0 (jj8 HNX.out HF2.out hg);clear hX hg hB)|((with_reducible refine jjz (t:=28) (p:=7) rfl ?_);refine BX.out.event 3 (.slice none 0 0) #[.string x.f0,.int .i64 x.f1,.slice F2 x.f2.length e2,.slice none 0 0] ?_;intro w3 hX hg hB;replace HB:=mk0 (hB _ _ HGX.out HB.out);replace BX:=mk0 (hX);replace HF2:=mk0 (jj8 HNX.out HF2.out hg);clear hX hg hB;have B3:=mk0 ((BX.out.touch gr (blk_lt B2.out) HNE.out).trans B2.out))|((with_reducible refine gate_load (ty:=93) (p:=1) rfl ?_);refine load_box 93 1 gx _ _ BX.out.blk Try.underlying93 ?_)|((with_reducible refine jjz (t:=93) (p:=2) rfl ?_);refine Ur.store_box 93 2 8 gr #[.string x.f0,.int .i64 x.f1,.slice F2 x.f2.length e2,.slice none 0 0] B3.out ?_;intro w9 hS hbS hkS;have B9:=mk0 hS;have HB9:=mk0 (hbS _ _ HG2.out HB.out);have HK9:=mk0 hkS;clear hS hbS hkS))
 refine bodyPost_ret (res_c1 rfl _ _ gr 93 #[.string x.f0,.int .i64 x.f1,.slice F2 x.f2.length e2,.slice none 0 0] (0,0) _ rfl B9.out Try.underlying93 rfl (by kernel_rfl)) rfl ?_
 have fin:∀ {β:Type} {d':Kd β} {A:Option Addr} {m:Nat} {ys:List β},Kd.F d' w0 (fun k=>okB okc w.heap.size n1 k∧k < w0.heap.size) A m ys→Kd.F d' w9 (okN okc w.heap.size) A m ys:=fun hF=>Kd.F_mono (Kd.F_step (BX.out.F HNX.out hF) (fun k hk _=>HK9.out k (HN2.out k hk.1))) (fun k hk=>okB_in HNL.out hk.1)
 have fix:∀ {β:Type} {d':Kd β} {A:Option Addr} {m:Nat} {ys:List β},Kd.F d' w3 (fun k=>okB okc w.heap.size n1 k∧k < w3.heap.size) A m ys→Kd.F d' w9 (okN okc w.heap.size) A m ys:=fun hF=>Kd.F_mono (Kd.F_step hF (fun k hk _=>HK9.out k (HN2.out k hk.1))) (fun k hk=>okB_in HNL.out hk.1)
 refine ⟨[.string x.f0,.int .i64 x.f1,.slice F2 x.f2.length e2,.slice none 0 0],rfl,?_,HB9.out⟩
 have h_:=k93_mkF w9 (okN okc w.heap.size) (clValue x) HE2.out (fix HF2.out) (A3:=none) (c3:=0) (Nat.le_refl 0) (F_nil8 _ _)
 exact h_
theorem clnOneof_c (x:S91) (hbk:bk91 x≤4294967296) (okc:Nat→Prop) (w:World) (cs:List Value) (hx:Kd.FK k91 w okc x cs) :
 Calls Try.prog 67 #[.agg cs.toArray] w fun e w'=>∃ cs':List Value,e = .returned (.agg cs'.toArray)∧Kd.FK k91 w' (okN okc w.heap.size) (clOneof x) cs'∧Below w.heap.size w w':=by
 obtain ⟨A1,c1,A2,c2,rfl,l1,g1,l2,g2⟩:=k91_openF hx
 have HL:=mk0 (bnOneof hbk)
 clear hbk
 go_enter Try.func67,Try.ntmps67
 go_wp2_with (first|((with_reducible refine jk0 (N:=1) rfl ?_);refine bzX 1 #[.string x.f0,.slice A1 x.f1.length c1,.slice A2 x.f2.length c2] 91 ?_;intro gx hgx wa hbox hb;have HB:=mk0 hb;have BX0:=mk0 hbox;have HGX:=mk0 (Nat.le_of_eq hgx.symm);clear hgx hbox hb)|((with_reducible refine jk0 (N:=2) rfl ?_);refine bzX 2 #[.string (⟨#[]⟩:ByteArray),.slice none 0 0,.slice none 0 0] 91 ?_;intro gr hgx w0 hbox hb;have HB1:=mk0 (jj1 HB.out HB.out.size hb);have BX:=mk0 (Bx.new (jj3 BX0.out hb));have B2:=mk0 hbox;have HG2:=mk0 (show w.heap.size≤gr from hgx ▸ HB.out.size);have HNE:=mk0 (show gr≠gx from fun e=>by have:=blk_lt BX0.out;rw [hgx] at e;omega);clear HB BX0 hgx hbox hb;have HB:=HB1;clear HB1;have k1_:w0.cell? ⟨gx,1,none⟩=some (.slice A1 x.f1.length c1:Value):=BX.out.cell 1 rfl))
 obtain ⟨n1,hn1⟩:∃ z,z=w0.heap.size:=⟨_,rfl⟩
 have HNX:Aside0 (∀ k,okB okc w.heap.size n1 k→k≠gx):=⟨okB_ne HGX.out (by rw [hn1];exact BX.out.glt)⟩
 have HN2:Aside0 (∀ k,okB okc w.heap.size n1 k→k≠gr):=⟨okB_ne HG2.out (by rw [hn1];exact blk_lt B2.out)⟩
 have HNL:=mk0 (show w.heap.size≤n1 from by rw [hn1];exact Nat.le_trans HG2.out (Nat.le_of_lt (blk_lt B2.out)))
 have HFR:Aside0 (∀ k,w0.heap.size≤k→okB okc w.heap.size n1 k):=⟨fun k hk=>okB_fr (by rw [hn1];exact hk)⟩
 have G1:=mk0 (okB_of (n1:=n1) g1 rfl HB.out)
 have G2:=mk0 (okB_of (n1:=n1) g2 rfl HB.out)
 clear hn1 g1 g2 k1_
 refine (clone8_c x.f1 HL.out.1 _ A1 c1 w0 (BX.out.F HNX.out G1.out)).mono ?_
 rintro e w1 ⟨F1,e1,rfl,he,hF,hb⟩
 have HFn:=mk0 (BX.out.Fcall (ok:=okB okc w.heap.size n1) HFR.out hF)
 replace HB:=mk0 (jj1 HB.out HB.out.size hb)
 replace BX:=mk0 (BX.out.below hb)
 have HF1:=HFn
 have HE1:=mk0 he
 clear hF hb he HFn
 go_wp2_with (first|((with_reducible refine jjz (t:=28) (p:=6) rfl ?_);refine BX.out.event 1 (.slice F1 x.f1.length e1) #[.string x.f0,.slice F1 x.f1.length e1,.slice A2 x.f2.length c2] ?_;intro w2 hX hg hB;replace HB:=mk0 (hB _ _ HGX.out HB.out);replace BX:=mk0 (hX);replace HF1:=mk0 (jj8 HNX.out HF1.out hg);clear hX hg hB)|((with_reducible refine jjz (t:=28) (p:=7) rfl ?_);refine BX.out.event 2 (.slice none 0 0) #[.string x.f0,.slice F1 x.f1.length e1,.slice none 0 0] ?_;intro w3 hX hg hB;replace HB:=mk0 (hB _ _ HGX.out HB.out);replace BX:=mk0 (hX);replace HF1:=mk0 (jj8 HNX.out HF1.out hg);clear hX hg hB;have B3:=mk0 ((BX.out.touch gr (blk_lt B2.out) HNE.out).trans B2.out))|((with_reducible refine gate_load (ty:=91) (p:=1) rfl ?_);refine load_box 91 1 gx _ _ BX.out.blk Try.underlying91 ?_)|((with_reducible refine jjz (t:=91) (p:=2) rfl ?_);refine Ur.store_box 91 2 8 gr #[.string x.f0,.slice F1 x.f1.length e1,.slice none 0 0] B3.out ?_;intro w9 hS hbS hkS;have B9:=mk0 hS;have HB9:=mk0 (hbS _ _ HG2.out HB.out);have HK9:=mk0 hkS;clear hS hbS hkS))
 refine bodyPost_ret (res_c1 rfl _ _ gr 91 #[.string x.f0,.slice F1 x.f1.length e1,.slice none 0 0] (0,0) _ rfl B9.out Try.underlying91 rfl (by kernel_rfl)) rfl ?_
 have fin:∀ {β:Type} {d':Kd β} {A:Option Addr} {m:Nat} {ys:List β},Kd.F d' w0 (fun k=>okB okc w.heap.size n1 k∧k < w0.heap.size) A m ys→Kd.F d' w9 (okN okc w.heap.size) A m ys:=fun hF=>Kd.F_mono (Kd.F_step (BX.out.F HNX.out hF) (fun k hk _=>HK9.out k (HN2.out k hk.1))) (fun k hk=>okB_in HNL.out hk.1)
 have fix:∀ {β:Type} {d':Kd β} {A:Option Addr} {m:Nat} {ys:List β},Kd.F d' w3 (fun k=>okB okc w.heap.size n1 k∧k < w3.heap.size) A m ys→Kd.F d' w9 (okN okc w.heap.size) A m ys:=fun hF=>Kd.F_mono (Kd.F_step hF (fun k hk _=>HK9.out k (HN2.out k hk.1))) (fun k hk=>okB_in HNL.out hk.1)
 refine ⟨[.string x.f0,.slice F1 x.f1.length e1,.slice none 0 0],rfl,?_,HB9.out⟩
 have h_:=k91_mkF w9 (okN okc w.heap.size) (clOneof x) HE1.out (fix HF1.out) (A2:=none) (c2:=0) (Nat.le_refl 0) (F_nil8 _ _)
 exact h_
theorem clnMethod_c (x:S53) (hbk:bk53 x≤4294967296) (okc:Nat→Prop) (w:World) (cs:List Value) (hx:Kd.FK k53 w okc x cs) :
 Calls Try.prog 72 #[.agg cs.toArray] w fun e w'=>∃ cs':List Value,e = .returned (.agg cs'.toArray)∧Kd.FK k53 w' (okN okc w.heap.size) (clMethod x) cs'∧Below w.heap.size w w':=by
 obtain ⟨A5,c5,A6,c6,rfl,l5,g5,l6,g6⟩:=k53_openF hx
 have HL:=mk0 (bnMethod hbk)
 clear hbk
 go_enter Try.func72,Try.ntmps72
 go_wp2_with (first|((with_reducible refine jk0 (N:=1) rfl ?_);refine bzX 1 #[.string x.f0,.string x.f1,.string x.f2,.bool x.f3,.bool x.f4,.slice A5 x.f5.length c5,.slice A6 x.f6.length c6] 53 ?_;intro gx hgx wa hbox hb;have HB:=mk0 hb;have BX0:=mk0 hbox;have HGX:=mk0 (Nat.le_of_eq hgx.symm);clear hgx hbox hb)|((with_reducible refine jk0 (N:=2) rfl ?_);refine bzX 2 #[.string (⟨#[]⟩:ByteArray),.string (⟨#[]⟩:ByteArray),.string (⟨#[]⟩:ByteArray),.bool false,.bool false,.slice none 0 0,.slice none 0 0] 53 ?_;intro gr hgx w0 hbox hb;have HB1:=mk0 (jj1 HB.out HB.out.size hb);have BX:=mk0 (Bx.new (jj3 BX0.out hb));have B2:=mk0 hbox;have HG2:=mk0 (show w.heap.size≤gr from hgx ▸ HB.out.size);have HNE:=mk0 (show gr≠gx from fun e=>by have:=blk_lt BX0.out;rw [hgx] at e;omega);clear HB BX0 hgx hbox hb;have HB:=HB1;clear HB1;have k5_:w0.cell? ⟨gx,5,none⟩=some (.slice A5 x.f5.length c5:Value):=BX.out.cell 5 rfl))
 obtain ⟨n1,hn1⟩:∃ z,z=w0.heap.size:=⟨_,rfl⟩
 have HNX:Aside0 (∀ k,okB okc w.heap.size n1 k→k≠gx):=⟨okB_ne HGX.out (by rw [hn1];exact BX.out.glt)⟩
 have HN2:Aside0 (∀ k,okB okc w.heap.size n1 k→k≠gr):=⟨okB_ne HG2.out (by rw [hn1];exact blk_lt B2.out)⟩
 have HNL:=mk0 (show w.heap.size≤n1 from by rw [hn1];exact Nat.le_trans HG2.out (Nat.le_of_lt (blk_lt B2.out)))
 have HFR:Aside0 (∀ k,w0.heap.size≤k→okB okc w.heap.size n1 k):=⟨fun k hk=>okB_fr (by rw [hn1];exact hk)⟩
 have G5:=mk0 (okB_of (n1:=n1) g5 rfl HB.out)
 have G6:=mk0 (okB_of (n1:=n1) g6 rfl HB.out)
 clear hn1 g5 g6 k5_
 refine (clone8_c x.f5 HL.out.1 _ A5 c5 w0 (BX.out.F HNX.out G5.out)).mono ?_
 rintro e w1 ⟨F5,e5,rfl,he,hF,hb⟩
 have HFn:=mk0 (BX.out.Fcall (ok:=okB okc w.heap.size n1) HFR.out hF)
 replace HB:=mk0 (jj1 HB.out HB.out.size hb)
 replace BX:=mk0 (BX.out.below hb)
 have HF5:=HFn
 have HE5:=mk0 he
 clear hF hb he HFn
 go_wp2_with (first|((with_reducible refine jjz (t:=28) (p:=6) rfl ?_);refine BX.out.event 5 (.slice F5 x.f5.length e5) #[.string x.f0,.string x.f1,.string x.f2,.bool x.f3,.bool x.f4,.slice F5 x.f5.length e5,.slice A6 x.f6.length c6] ?_;intro w2 hX hg hB;replace HB:=mk0 (hB _ _ HGX.out HB.out);replace BX:=mk0 (hX);replace HF5:=mk0 (jj8 HNX.out HF5.out hg);clear hX hg hB)|((with_reducible refine jjz (t:=28) (p:=7) rfl ?_);refine BX.out.event 6 (.slice none 0 0) #[.string x.f0,.string x.f1,.string x.f2,.bool x.f3,.bool x.f4,.slice F5 x.f5.length e5,.slice none 0 0] ?_;intro w3 hX hg hB;replace HB:=mk0 (hB _ _ HGX.out HB.out);replace BX:=mk0 (hX);replace HF5:=mk0 (jj8 HNX.out HF5.out hg);clear hX hg hB;have B3:=mk0 ((BX.out.touch gr (blk_lt B2.out) HNE.out).trans B2.out))|((with_reducible refine gate_load (ty:=53) (p:=1) rfl ?_);refine load_box 53 1 gx _ _ BX.out.blk Try.underlying53 ?_)|((with_reducible refine jjz (t:=53) (p:=2) rfl ?_);refine Ur.store_box 53 2 8 gr #[.string x.f0,.string x.f1,.string x.f2,.bool x.f3,.bool x.f4,.slice F5 x.f5.length e5,.slice none 0 0] B3.out ?_;intro w9 hS hbS hkS;have B9:=mk0 hS;have HB9:=mk0 (hbS _ _ HG2.out HB.out);have HK9:=mk0 hkS;clear hS hbS hkS))
 refine bodyPost_ret (res_c1 rfl _ _ gr 53 #[.string x.f0,.string x.f1,.string x.f2,.bool x.f3,.bool x.f4,.slice F5 x.f5.length e5,.slice none 0 0] (0,0) _ rfl B9.out Try.underlying53 rfl (by kernel_rfl)) rfl ?_
 have fin:∀ {β:Type} {d':Kd β} {A:Option Addr} {m:Nat} {ys:List β},Kd.F d' w0 (fun k=>okB okc w.heap.size n1 k∧k < w0.heap.size) A m ys→Kd.F d' w9 (okN okc w.heap.size) A m ys:=fun hF=>Kd.F_mono (Kd.F_step (BX.out.F HNX.out hF) (fun k hk _=>HK9.out k (HN2.out k hk.1))) (fun k hk=>okB_in HNL.out hk.1)
 have fix:∀ {β:Type} {d':Kd β} {A:Option Addr} {m:Nat} {ys:List β},Kd.F d' w3 (fun k=>okB okc w.heap.size n1 k∧k < w3.heap.size) A m ys→Kd.F d' w9 (okN okc w.heap.size) A m ys:=fun hF=>Kd.F_mono (Kd.F_step hF (fun k hk _=>HK9.out k (HN2.out k hk.1))) (fun k hk=>okB_in HNL.out hk.1)
 refine ⟨[.string x.f0,.string x.f1,.string x.f2,.bool x.f3,.bool x.f4,.slice F5 x.f5.length e5,.slice none 0 0],rfl,?_,HB9.out⟩
 have h_:=k53_mkF w9 (okN okc w.heap.size) (clMethod x) HE5.out (fix HF5.out) (A6:=none) (c6:=0) (Nat.le_refl 0) (F_nil8 _ _)
 exact h_
end Go.Proofs.Ytheoafenehckbaa.Ur
