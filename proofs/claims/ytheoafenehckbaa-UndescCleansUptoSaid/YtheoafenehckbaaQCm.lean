/- Messages cleaned, by the reference. -/
import Derived.Test.YtheoafenehckbaaQCk
import Derived.Test.YtheoafenehckbaaQSh
import Derived.Test.YtheoafenehckbaaQCe
import Derived.Test.YtheoafenehckbaaQSh
import Derived.LoopN
import Derived.RegionTactic
namespace Go.Proofs.Ytheoafenehckbaa.Ur
open Go.RowKit GUndescBack YtheoafenehckbaaW.PrintWords YtheoafenehckbaaW.PrintLast YtheoafenehckbaaW.PrintMore Rk
set_option linter.unusedVariables false
set_option linter.unusedSimpArgs false
theorem ifoMessage:(Try.prog.info? 76).map (fun i=>(i.zero,i.size,i.bytes))=some (some (.agg #[.string (⟨#[]⟩:ByteArray),.slice none 0 0,.slice none 0 0,.slice none 0 0,.slice none 0 0,.slice none 0 0,.slice none 0 0,.slice none 0 0,.slice none 0 0,.slice none 0 0,.slice none 0 0]),11,256):=by kernel_rfl
theorem ifoOneof:(Try.prog.info? 91).map (fun i=>(i.zero,i.size,i.bytes))=some (some (.agg #[.string (⟨#[]⟩:ByteArray),.slice none 0 0,.slice none 0 0]),3,64):=by kernel_rfl
theorem clOneof_FK {W:World} {ok:Nat→Prop} {x:S91} {c:List Value} (h:Kd.FK k91 W ok x c):Kd.FK k91 W ok (clOneof x) (c.take 2++[.slice none 0 0]++c.drop 3):=by
 obtain ⟨A1,c1,A2,c2,rfl,l1,g1,l2,g2⟩:=k91_openF h
 exact k91_mkF W ok (clOneof x) l1 g1 (A2:=none) (c2:=0) (Nat.le_refl 0) (F_nil8 W ok)
def cleanMessages.T8:Bool × List (List Nat × List Nat):=(true,[([],[]),([],[]),([],[]),([],[]),([],[]),([],[]),([4,5],[4,5]),([6],[6]),([7],[7]),([8],[8]),([],[]),([],[]),([10,11],[10,11]),([12],[12]),([13],[13]),([14,9],[14]),([0,1,0,1,4,5,6,7,8,9,14,15],[0,1]),([16,0,1,4,5,6,7,8,9,14,15],[16]),([17,9,15,0,1,4,5,6,7,8,9,14,15],[9,17]),([2,3,0,1,2,3,4,5,6,7,8,9,10,11,12,13,14,15,16,17,18],[2,3]),([19,0,1,2,3,4,5,6,7,8,9,10,11,12,13,14,15,16,17,18],[19]),([20,15,18,0,1,2,3,4,5,6,7,8,9,10,11,12,13,14,15,16,17,18],[15,20])])
def cleanMessages.B8:List Nat:=[0,0,0,0,0,0,48,112,240,496,0,0,3072,7168,15360,32752,65523,131059,262131,524287,1048575,2097151]
theorem cleanMessages.tab8:rtab .any (opsOf Try.f19 8)=cleanMessages.T8:=by kernel_rfl
theorem cleanMessages.bits8:waitsOk cleanMessages.T8.2 cleanMessages.B8=true:=by kernel_rfl
def cleanMessages.T9:Bool × List (List Nat × List Nat):=(true,[([],[]),([],[]),([],[]),([],[]),([],[]),([],[]),([4,5],[4,5]),([6],[6]),([7],[7]),([8],[8]),([],[]),([],[]),([10,11],[10,11]),([12],[12]),([13],[13]),([],[]),([15],[15]),([14,16,9],[14,16]),([0,1,0,1,4,5,6,7,8,9,14,17],[0,1]),([18,0,1,4,5,6,7,8,9,14,17],[18]),([19,9,17,0,1,4,5,6,7,8,9,14,17],[9,19]),([2,3,0,1,2,3,4,5,6,7,8,9,10,11,12,13,14,15,16,17,18,19,20],[2,3]),([21,0,1,2,3,4,5,6,7,8,9,10,11,12,13,14,15,16,17,18,19,20],[21]),([22,17,20,0,1,2,3,4,5,6,7,8,9,10,11,12,13,14,15,16,17,18,19,20],[17,22])])
def cleanMessages.B9:List Nat:=[0,0,0,0,0,0,48,112,240,496,0,0,3072,7168,15360,0,32768,131056,262131,524275,1048563,2097151,4194303,8388607]
theorem cleanMessages.tab9:rtab .any (opsOf Try.f19 9)=cleanMessages.T9:=by kernel_rfl
theorem cleanMessages.bits9:waitsOk cleanMessages.T9.2 cleanMessages.B9=true:=by kernel_rfl
set_option maxHeartbeats 8000000 in
set_option maxRecDepth 100000 in
theorem cleanMessages_c:∀ (n:Nat) (a:Int),0≤a→a+n=65→∀ (l:List S76) (hb:(l.map bk76).sum≤4294967296) (okp:Nat→Prop) (A0:Option Addr) (c0:Nat) (w:World) (HF:Kd.F k76 w okp A0 l.length l),
 Calls Try.prog 19 #[.slice A0 l.length c0,.int .i64 a] w fun e w'=>∃ A c,e = .returned (.slice A (clMs n l).length c)∧(clMs n l).length≤c∧Kd.F k76 w' (okN okp w.heap.size) A (clMs n l).length (clMs n l)∧Below w.heap.size w w':=by
 intro n
 induction n with
 | zero=>
  intro a h0 ha l hb okp A0 c0 w HF
  have d0:decide (a > 64)=true:=decide_eq_true (by omega)
  clear h0 ha hb HF
  go_enter Try.func19,Try.ntmps19
  go_wp2
  go_ret
  exact ⟨none,0,rfl,Nat.le_refl _,Kd.F_nil _ _ _,Below.refl _ _⟩
 | succ n ih=>
 intro a h0 ha l hb okp A0 c0 w HF
 have d00:decide (a > 64)=false:=decide_eq_false (by omega)
 have IH:=mk0 (ih (wrap64 (a+1)) (by unfold wrap64;omega) (by unfold wrap64;omega))
 have HLL:Aside0 (∀ y∈l,bk76 y≤4294967296):=⟨fun y hy=>Nat.le_trans (sumle bk76 l y hy) hb⟩
 have HL:Aside0 (l.length≤4294967296):=⟨Nat.le_trans (lensum bk76 bk76_pos l) hb⟩
 have HFa:=mk0 HF
 rw [clMs_succ,List.length_map]
 clear h0 ha hb HF ih
 go_enter Try.func19,Try.ntmps19
 go_wp2_with (first|((with_reducible refine jk0 (N:=11) rfl ?_);refine Kd.N_append_rows k76 (w0:=w) w.heap.size rfl (.const (.slice none 0 0)) (.tmp 10) 24 76 (.agg #[.string (⟨#[]⟩:ByteArray),.slice none 0 0,.slice none 0 0,.slice none 0 0,.slice none 0 0,.slice none 0 0,.slice none 0 0,.slice none 0 0,.slice none 0 0,.slice none 0 0,.slice none 0 0]) 256 rfl Try.underlying24 ifoMessage rfl (by decide) (by decide) (.slice none 0 0) [] l A0 l.length c0 (okN okp w.heap.size) (okp) rfl rfl (Kd.N_nil _ _ _ _ _) HFa.out (fun k hk=>⟨.inl hk,by simp [Value.ownBlock]⟩) (fun k hk=>.inr hk) (Below.refl _ _) ?aS ?aL ?_;(case aS=>exact Nat.le_refl _);(case aL=>have:=HL.out;simp only [List.length_nil];omega);intro v1 w1 hN hb hg hat;have HN:=mk0 (show Kd.N k76 76 w1 w.heap.size (okN okp w.heap.size) v1 l from hN);have HB:=mk0 hb;clear hN hb hg hat;obtain ⟨AO,cO,rfl⟩:=Kd.N_slice HN.out))
 go_loopg [14] l.length (fun kq v14 w'=>∃ i:Nat,v14 = .int .i64 (i:Int)∧Aside0 (i+kq=l.length)∧Aside0 (Below w.heap.size w w')∧Aside0 (Kd.N k76 76 w' w.heap.size (okN okp w.heap.size) (.slice AO l.length cO) ((l.take i).map (clMx n)++l.drop i)))
 case atStart=>
  exact ⟨0,rfl,⟨by omega⟩,⟨HB.out⟩,⟨HN.out⟩⟩
 case round=>
  clear HN HB
  obtain ⟨i,rfl,HI,HB,HN⟩:=hrel
  by_cases hlt:i < l.length
  · have d0:=lt_d hlt
    have HLT:=mk0 hlt
    have p0:=le_p i
    have q0:=lt_p hlt
    have hwp:=mk0 (wrap_lt i l.length hlt HL.out)
    obtain ⟨g,cap,ev,hbg,-⟩:=Kd.N_form HN.out (by rw [len_map];omega)
    injection ev with e1 e2 e3
    subst e1
    clear e2 e3
    obtain ⟨c,hcl,hH,hFK⟩:=Hl.new HN.out z76 hlt
    rw [get_map _ _ _ _ hlt] at hFK
    have hss:=set_map (clMx n) z76 l i hlt
    have hxm:l.getD i z76∈l:=by rw [List.getD_eq_getElem?_getD,List.getElem?_eq_getElem hlt];exact List.getElem_mem hlt
    obtain ⟨x,hx⟩:∃ x,l.getD i z76=x:=⟨_,rfl⟩
    rw [hx] at hFK hss hxm
    have HL2:=mk0 (bk76_len (HLL.out x hxm))
    have HSS:=mk0 hss
    obtain ⟨A1,c1,A2,c2,A3,c3,A4,c4,A5,c5,A6,c6,A7,c7,A8,c8,A9,c9,A10,c10,rfl,l1,g1,l2,g2,l3,g3,l4,g4,l5,g5,l6,g6,l7,g7,l8,g8,l9,g9,l10,g10⟩:=k76_openF hFK
    have HGB:=mk0 hbg
    have HBO:=mk0 HB.out.size
    obtain ⟨wo,hwo⟩:∃ z,z=wr:=⟨_,rfl⟩
    rw [← hwo] at HBO g1 g2 g3 g4 g5 g6 g7 g8 g9 g10
    have HH:=mk0 (show Hl k76 76 wo w.heap.size (okN okp w.heap.size) g l.length cO ((l.take i).map (clMx n)++l.drop i) i wr [.string x.f0,.slice A1 x.f1.length c1,.slice A2 x.f2.length c2,.slice A3 x.f3.length c3,.slice A4 x.f4.length c4,.slice A5 x.f5.length c5,.slice A6 x.f6.length c6,.slice A7 x.f7.length c7,.slice A8 x.f8.length c8,.slice A9 x.f9.length c9,.slice A10 x.f10.length c10] from by rw [hwo];exact hH)
    clear hss hx hxm hcl hH hbg HN hwo hFK
    cases gk with
    | zero=>exact absurd HI.out (fun h=>Nat.ne_of_lt hlt h)
    | succ k1=>
     go_wp2_with (first|((with_reducible refine jjz (t:=28) (p:=20) rfl ?_);refine HH.out.event 10 (.slice none 0 0) (c':=[.string x.f0,.slice A1 x.f1.length c1,.slice A2 x.f2.length c2,.slice A3 x.f3.length c3,.slice A4 x.f4.length c4,.slice A5 x.f5.length c5,.slice A6 x.f6.length c6,.slice A7 x.f7.length c7,.slice A8 x.f8.length c8,.slice A9 x.f9.length c9,.slice none 0 0]) ?_ rfl rfl ?of rfl (by decide) rfl rfl (by kernel_rfl) rfl rfl rfl;(case of=>first|rfl|(show _=i*11+10;omega));intro wa hH hg hB;have HB1:=mk0 (hB _ _ HGB.out HB.out);clear HB HH;have HB:=HB1;have HH:=mk0 hH;clear HB1 hH hg hB))
     refine start_ (n:=22) (S:=fun w'=>w'.cell? ⟨g,i*11+1,none⟩=some (.slice A1 x.f1.length c1)∧w'.cell? ⟨g,i*11+5,none⟩=some (.slice A5 x.f5.length c5)) (ds:=[18,21]) (bzs 22 0) (by kernel_rfl) rfl rfl ⟨(HH.out.cell 1 rfl),(HH.out.cell 5 rfl)⟩ (fun hHeld=>?_)
     refine with_tabW cleanMessages.tab8 cleanMessages.bits8 (fun HT_ HW_=>?_)
     replace HB:=mk0 (jj2 HB.out)
     replace HH:=mk0 (HH.out.below (jj2 (Below.refl _ _)))
     generalize wa.drew=wq at HB HH hHeld ⊢
     refine pzS 0 (some 21) (bzs 22 1) HT_ ?_
     refine pzS 1 (some 22) (bzs 22 3) HT_ ?_
     refine pzS 2 (some 23) (bzs 22 7) HT_ ?_
     refine pzS 3 (some 24) (bzs 22 15) HT_ ?_
     refine pzS 4 (some 25) (bzs 22 31) HT_ ?_
     refine pzS 5 (some 26) (bzs 22 63) HT_ ?_
     refine pzS 6 (some 27) (bzs 22 127) HT_ ?_
     refine pzS 7 (some 28) (bzs 22 255) HT_ ?_
     refine pzS 10 (some 31) (bzs 22 1279) HT_ ?_
     refine pzS 11 (some 32) (bzs 22 3327) HT_ ?_
     refine pzS 12 (some 33) (bzs 22 7423) HT_ ?_
     refine pzS 13 (some 34) (bzs 22 15615) HT_ ?_
     refine tzS 8 (some 29) (bzs 22 15871) HT_ HW_ hHeld ?_
     refine tzS 14 (some 35) (bzs 22 32255) HT_ HW_ hHeld ?_
     refine one_ (i:=9) (N:=some 30) (bzs 22 32767) rfl rfl (jk2 HT_.out (by kernel_rfl)) (by decide) (fun K hK=>?_)
     refine gzO Try.func21 #[.slice A1 x.f1.length c1] ?_
     refine (cleanFields_c x.f1 HL2.out.1 _ A1 c1 wq (HH.out.F g1)).mono ?_
     rintro e w2 ⟨F1,e1,rfl,he1,hF,hb⟩
     refine ⟨_,rfl,?_⟩
     have HF1:=mk0 (HH.out.Fcall (okp:=okp) (nb:=w.heap.size) HB.out.size hF hb)
     replace HB:=mk0 (jj1 HB.out HB.out.size hb)
     replace HH:=mk0 (HH.out.below hb)
     clear hF hb
     have HE1:=mk0 he1
     clear he1
     refine hK.out _ _ ⟨(HH.out.cell 1 rfl),(HH.out.cell 5 rfl)⟩ (fun hHeld=>?_)
     clear hK K
     refine nzS (some 30) ?_
     refine one_ (i:=15) (N:=some 36) (bzs 22 65535) rfl rfl (jk2 HT_.out (by kernel_rfl)) (by decide) (fun K hK=>?_)
     refine gzO Try.func21 #[.slice A5 x.f5.length c5] ?_
     refine (cleanFields_c x.f5 HL2.out.2.1 _ A5 c5 w2 (HH.out.F g5)).mono ?_
     rintro e w2 ⟨F5,e5,rfl,he5,hF,hb⟩
     refine ⟨_,rfl,?_⟩
     have HF5:=mk0 (HH.out.Fcall (okp:=okp) (nb:=w.heap.size) HB.out.size hF hb)
     replace HB:=mk0 (jj1 HB.out HB.out.size hb)
     replace HH:=mk0 (HH.out.below hb)
     replace HF1:=mk0 (Fr_below HF1.out hb)
     clear hF hb
     have HE5:=mk0 he5
     clear he5
     refine hK.out _ _ ⟨(HH.out.cell 1 rfl),(HH.out.cell 5 rfl)⟩ (fun hHeld=>?_)
     clear hK K
     refine nzS (some 36) ?_
     refine pzS 16 (some 37) (bzs 22 131071) HT_ ?_
     refine pzS 17 (some 38) (bzs 22 262143) HT_ ?_
     refine last_ (i:=18) (N:=none) (bzs 22 524287) rfl rfl (jk2 HT_.out (by kernel_rfl)) (by decide) (fun K hK=>?_)
     refine HH.out.estep 1 (.slice F1 x.f1.length e1) (c':=[.string x.f0,.slice F1 x.f1.length e1,.slice A2 x.f2.length c2,.slice A3 x.f3.length c3,.slice A4 x.f4.length c4,.slice A5 x.f5.length c5,.slice A6 x.f6.length c6,.slice A7 x.f7.length c7,.slice A8 x.f8.length c8,.slice A9 x.f9.length c9,.slice none 0 0]) ?_ (by rfl) rfl rfl rfl ?of rfl (by decide) rfl rfl (by kernel_rfl) rfl
     case of=>first|rfl|(show _=i*11+1;omega)
     intro w3 hH hg hB
     replace HB:=mk0 (hB _ _ HGB.out HB.out)
     replace HH:=mk0 (hH)
     replace HF1:=mk0 (Fr_grown HF1.out hg)
     replace HF5:=mk0 (Fr_grown HF5.out hg)
     clear hH hg hB
     refine hK.out _ _ ?_
     clear hK K
     refine pzS 19 (some 39) (bzs 22 1048575) HT_ ?_
     refine pzS 20 (some 40) (bzs 22 2097151) HT_ ?_
     refine last_ (i:=21) (N:=none) (bzs 22 4194303) rfl rfl (jk2 HT_.out (by kernel_rfl)) (by decide) (fun K hK=>?_)
     refine HH.out.estep 5 (.slice F5 x.f5.length e5) (c':=[.string x.f0,.slice F1 x.f1.length e1,.slice A2 x.f2.length c2,.slice A3 x.f3.length c3,.slice A4 x.f4.length c4,.slice F5 x.f5.length e5,.slice A6 x.f6.length c6,.slice A7 x.f7.length c7,.slice A8 x.f8.length c8,.slice A9 x.f9.length c9,.slice none 0 0]) ?_ (by rfl) rfl rfl rfl ?of rfl (by decide) rfl rfl (by kernel_rfl) rfl
     case of=>first|rfl|(show _=i*11+5;omega)
     intro w3 hH hg hB
     replace HB:=mk0 (hB _ _ HGB.out HB.out)
     replace HH:=mk0 (hH)
     replace HF1:=mk0 (Fr_grown HF1.out hg)
     replace HF5:=mk0 (Fr_grown HF5.out hg)
     clear hH hg hB
     refine hK.out _ _ ?_
     clear hK K
     refine done_ (done_of HT_.out (by kernel_rfl)) ?_
     go_wp2
     refine start_ (n:=24) (S:=fun w'=>w'.cell? ⟨g,i*11+3,none⟩=some (.slice A3 x.f3.length c3)∧w'.cell? ⟨g,i*11+2,none⟩=some (.slice A2 x.f2.length c2)) (ds:=[20,23]) (bzs 24 0) (by kernel_rfl) rfl rfl ⟨(HH.out.cell 3 rfl),(HH.out.cell 2 rfl)⟩ (fun hHeld=>?_)
     refine with_tabW cleanMessages.tab9 cleanMessages.bits9 (fun HT_ HW_=>?_)
     replace HB:=mk0 (jj2 HB.out)
     replace HH:=mk0 (HH.out.below (jj2 (Below.refl _ _)))
     replace HF1:=mk0 (Fr_below HF1.out (jj2 (Below.refl _ _)))
     replace HF5:=mk0 (Fr_below HF5.out (jj2 (Below.refl _ _)))
     generalize w3.drew=wq at HB HH hHeld HF1 HF5 ⊢
     refine pzS 0 (some 41) (bzs 24 1) HT_ ?_
     refine pzS 1 (some 42) (bzs 24 3) HT_ ?_
     refine pzS 2 (some 43) (bzs 24 7) HT_ ?_
     refine pzS 3 (some 44) (bzs 24 15) HT_ ?_
     refine pzS 4 (some 45) (bzs 24 31) HT_ ?_
     refine pzS 5 (some 46) (bzs 24 63) HT_ ?_
     refine pzS 6 (some 47) (bzs 24 127) HT_ ?_
     refine pzS 7 (some 48) (bzs 24 255) HT_ ?_
     refine pzS 10 (some 51) (bzs 24 1279) HT_ ?_
     refine pzS 11 (some 52) (bzs 24 3327) HT_ ?_
     refine pzS 12 (some 53) (bzs 24 7423) HT_ ?_
     refine pzS 13 (some 54) (bzs 24 15615) HT_ ?_
     refine pzS 15 (some 56) (bzs 24 48383) HT_ ?_
     refine pzS 16 (some 57) (bzs 24 113919) HT_ ?_
     refine tzS 8 (some 49) (bzs 24 114175) HT_ HW_ hHeld ?_
     refine tzS 14 (some 55) (bzs 24 130559) HT_ HW_ hHeld ?_
     refine one_ (i:=9) (N:=some 50) (bzs 24 131071) rfl rfl (jk2 HT_.out (by kernel_rfl)) (by decide) (fun K hK=>?_)
     refine gzO Try.func20 #[.slice A3 x.f3.length c3] ?_
     refine (cleanEnums_c x.f3 HL2.out.2.2.1 HL2.out.2.2.2.1 _ A3 c3 wq (HH.out.F g3)).mono ?_
     rintro e w2 ⟨F3,e3,rfl,he3,hF,hb⟩
     refine ⟨_,rfl,?_⟩
     have HF3:=mk0 (HH.out.Fcall (okp:=okp) (nb:=w.heap.size) HB.out.size hF hb)
     replace HB:=mk0 (jj1 HB.out HB.out.size hb)
     replace HH:=mk0 (HH.out.below hb)
     replace HF1:=mk0 (Fr_below HF1.out hb)
     replace HF5:=mk0 (Fr_below HF5.out hb)
     clear hF hb
     have HE3:=mk0 he3
     clear he3
     refine hK.out _ _ ⟨(HH.out.cell 3 rfl),(HH.out.cell 2 rfl)⟩ (fun hHeld=>?_)
     clear hK K
     refine nzS (some 50) ?_
     refine one_ (i:=17) (N:=some 58) (bzs 24 262143) rfl rfl (jk2 HT_.out (by kernel_rfl)) (by decide) (fun K hK=>?_)
     refine gzO Try.func19 #[.slice A2 x.f2.length c2,.int .i64 (wrap64 (a+1))] ?_
     refine (IH.out x.f2 HL2.out.2.2.2.2.2 _ A2 c2 w2 (HH.out.F g2)).mono ?_
     rintro e w2 ⟨F2,e2,rfl,he2,hF,hb⟩
     refine ⟨_,rfl,?_⟩
     have HF2:=mk0 (HH.out.Fcall (okp:=okp) (nb:=w.heap.size) HB.out.size hF hb)
     replace HB:=mk0 (jj1 HB.out HB.out.size hb)
     replace HH:=mk0 (HH.out.below hb)
     replace HF1:=mk0 (Fr_below HF1.out hb)
     replace HF5:=mk0 (Fr_below HF5.out hb)
     replace HF3:=mk0 (Fr_below HF3.out hb)
     clear hF hb
     have HE2:=mk0 he2
     clear he2
     refine hK.out _ _ ⟨(HH.out.cell 3 rfl),(HH.out.cell 2 rfl)⟩ (fun hHeld=>?_)
     clear hK K
     refine nzS (some 58) ?_
     refine pzS 18 (some 59) (bzs 24 524287) HT_ ?_
     refine pzS 19 (some 60) (bzs 24 1048575) HT_ ?_
     refine last_ (i:=20) (N:=none) (bzs 24 2097151) rfl rfl (jk2 HT_.out (by kernel_rfl)) (by decide) (fun K hK=>?_)
     refine HH.out.estep 3 (.slice F3 x.f3.length e3) (c':=[.string x.f0,.slice F1 x.f1.length e1,.slice A2 x.f2.length c2,.slice F3 x.f3.length e3,.slice A4 x.f4.length c4,.slice F5 x.f5.length e5,.slice A6 x.f6.length c6,.slice A7 x.f7.length c7,.slice A8 x.f8.length c8,.slice A9 x.f9.length c9,.slice none 0 0]) ?_ (by rfl) rfl rfl rfl ?of rfl (by decide) rfl rfl (by kernel_rfl) rfl
     case of=>first|rfl|(show _=i*11+3;omega)
     intro w3 hH hg hB
     replace HB:=mk0 (hB _ _ HGB.out HB.out)
     replace HH:=mk0 (hH)
     replace HF1:=mk0 (Fr_grown HF1.out hg)
     replace HF5:=mk0 (Fr_grown HF5.out hg)
     replace HF3:=mk0 (Fr_grown HF3.out hg)
     replace HF2:=mk0 (Fr_grown HF2.out hg)
     clear hH hg hB
     refine hK.out _ _ ?_
     clear hK K
     refine pzS 21 (some 61) (bzs 24 4194303) HT_ ?_
     refine pzS 22 (some 62) (bzs 24 8388607) HT_ ?_
     refine last_ (i:=23) (N:=none) (bzs 24 16777215) rfl rfl (jk2 HT_.out (by kernel_rfl)) (by decide) (fun K hK=>?_)
     refine HH.out.estep 2 (.slice F2 (clMs n x.f2).length e2) (c':=[.string x.f0,.slice F1 x.f1.length e1,.slice F2 (clMs n x.f2).length e2,.slice F3 x.f3.length e3,.slice A4 x.f4.length c4,.slice F5 x.f5.length e5,.slice A6 x.f6.length c6,.slice A7 x.f7.length c7,.slice A8 x.f8.length c8,.slice A9 x.f9.length c9,.slice none 0 0]) ?_ (by rfl) rfl rfl rfl ?of rfl (by decide) rfl rfl (by kernel_rfl) rfl
     case of=>first|rfl|(show _=i*11+2;omega)
     intro w3 hH hg hB
     replace HB:=mk0 (hB _ _ HGB.out HB.out)
     replace HH:=mk0 (hH)
     replace HF1:=mk0 (Fr_grown HF1.out hg)
     replace HF5:=mk0 (Fr_grown HF5.out hg)
     replace HF3:=mk0 (Fr_grown HF3.out hg)
     replace HF2:=mk0 (Fr_grown HF2.out hg)
     clear hH hg hB
     refine hK.out _ _ ?_
     clear hK K
     refine done_ (done_of HT_.out (by kernel_rfl)) ?_
     replace g4:=HH.out.F2 g4
     replace g6:=HH.out.F2 g6
     replace g7:=HH.out.F2 g7
     replace g8:=HH.out.F2 g8
     replace g9:=HH.out.F2 g9
     have HH1:=mk0 HH.out.rebase
     clear HH HBO g1 g2 g3 g5 g10
     have HH:=HH1
     have HBO:=mk0 HB.out.size
     clear HH1
     have k6_:w3.cell? ⟨g,i*11+6,none⟩=some (.slice A6 x.f6.length c6):=HH.out.cell 6 rfl
     go_wp2_with (first|((with_reducible refine jk0 (N:=70) rfl ?_);refine Kd.N_append_rows k91 (w0:=w3) w3.heap.size rfl (.const (.slice none 0 0)) (.tmp 69) 74 91 (.agg #[.string (⟨#[]⟩:ByteArray),.slice none 0 0,.slice none 0 0]) 64 rfl Try.underlying74 ifoOneof rfl (by decide) (by decide) (.slice none 0 0) [] x.f6 A6 x.f6.length c6 (fun k=>okN okp w.heap.size k∧k≠g) (fun k=>okN okp w.heap.size k∧k < w3.heap.size∧k≠g) rfl rfl (Kd.N_nil _ _ _ _ _) (HH.out.F g6) (fun k hk=>⟨⟨hk.1,hk.2.2⟩,by simp [Value.ownBlock]⟩) (fun k hk=>⟨.inr (Nat.le_trans HB.out.size hk),fun e=>Nat.lt_irrefl _ (Nat.lt_of_lt_of_le (e ▸ Nat.lt_of_lt_of_le HH.out.glt HH.out.size) hk)⟩) (Below.refl _ _) ?aS ?aL ?_;(case aS=>exact Nat.le_refl _);(case aL=>have:=HL2.out.2.2.2.2.1;simp only [List.length_nil];omega);intro v1 wb hN hb hg hat;have HV:=mk0 (show Kd.N k91 91 wb w3.heap.size (fun k=>okN okp w.heap.size k∧k≠g) v1 x.f6 from hN);have HNB:=mk0 HH.out.size;have HB1:=mk0 (jj1 HB.out HB.out.size hb);have HH1:=mk0 (HH.out.below hb);clear HB HH;have HB:=HB1;have HH:=HH1;clear HB1 HH1 hN hb hg hat;obtain ⟨BI,dI,rfl⟩:=Kd.N_slice HV.out)|((with_reducible refine jjz (t:=74) (p:=72) rfl ?_);refine HH.out.event 6 (.slice BI x.f6.length dI) (c':=[.string x.f0,.slice F1 x.f1.length e1,.slice F2 (clMs n x.f2).length e2,.slice F3 x.f3.length e3,.slice A4 x.f4.length c4,.slice F5 x.f5.length e5,.slice BI x.f6.length dI,.slice A7 x.f7.length c7,.slice A8 x.f8.length c8,.slice A9 x.f9.length c9,.slice none 0 0]) ?_ rfl rfl ?of rfl (by decide) rfl rfl (by kernel_rfl) rfl rfl rfl;(case of=>first|rfl|(show _=i*11+6;omega));intro wc hH hg hB;have HV1:=mk0 (Kd.N_grown HV.out hg (fun k hk e=>hk.2 (by injection e)));have HB1:=mk0 (hB _ _ HGB.out HB.out);clear HB HH;have HB:=HB1;have HH:=mk0 hH;clear HB1 hH hg hB;clear k6_ HV;have HV:=HV1;clear HV1;have k6_:wc.cell? ⟨g,i*11+6,none⟩=some (.slice BI x.f6.length dI:Value):=HH.out.cell 6 rfl))
     have HI1:=HI
     have hwp1:=hwp
     clear HI hwp
     go_loopg [79] x.f6.length (fun kq v79 w'=>∃ k:Nat,v79 = .int .i64 (k:Int)∧Aside0 (k+kq=x.f6.length)∧Aside0 (Below w.heap.size w w')∧Aside0 (Hl k76 76 w3 w.heap.size (okN okp w.heap.size) g l.length cO ((l.take i).map (clMx n)++l.drop i) i w' [.string x.f0,.slice F1 x.f1.length e1,.slice F2 (clMs n x.f2).length e2,.slice F3 x.f3.length e3,.slice A4 x.f4.length c4,.slice F5 x.f5.length e5,.slice BI x.f6.length dI,.slice A7 x.f7.length c7,.slice A8 x.f8.length c8,.slice A9 x.f9.length c9,.slice none 0 0])∧Aside0 (Kd.N k91 91 w' w3.heap.size (fun k=>okN okp w.heap.size k∧k≠g) (.slice BI x.f6.length dI) ((x.f6.take k).map clOneof++x.f6.drop k)))
     case atStart=>exact ⟨0,rfl,⟨by omega⟩,⟨HB.out⟩,⟨HH.out⟩,⟨HV.out⟩⟩
     case round=>
      clear HB HH HV k6_
      obtain ⟨k,rfl,HI2,HB,HH,HV⟩:=hrel
      by_cases hlt2:k < x.f6.length
      · have hwp:=mk0 (wrap_lt k x.f6.length hlt2 HL2.out.2.2.2.2.1)
        have dd1_:=lt_d hlt2
        have HLT2:=mk0 hlt2
        have p1:=le_p k
        have q2:=lt_p hlt2
        obtain ⟨g2,cap2,ev,hbg2,-⟩:=Kd.N_form HV.out (by rw [len_map];omega)
        injection ev with e1 e2 e3
        subst e1
        clear e2 e3
        obtain ⟨c,hcl,hFK,hcc,hfr⟩:=Kd.N_elem HV.out z91 (k:Int) (Int.natCast_nonneg _) (Int.ofNat_lt.2 hlt2)
        rw [Int.toNat_natCast,get_map _ _ _ _ hlt2] at hFK
        have hss:=set_map clOneof z91 x.f6 k hlt2
        obtain ⟨u,hu⟩:∃ u,x.f6.getD k z91=u:=⟨_,rfl⟩
        rw [hu] at hFK hss
        have HSS2:=mk0 hss
        have HGB2:=mk0 hbg2
        have HCL:=mk0 hcl
        have HCC:=mk0 hcc
        have HFK:=mk0 (clOneof_FK hFK)
        clear hss hu hbg2 hcl hcc hFK hfr
        have k6_:wr.cell? ⟨g,i*11+6,none⟩=some (.slice (some ⟨g2,0,none⟩) x.f6.length dI):=HH.out.cell 6 rfl
        cases gk with
        | zero=>exact absurd HI2.out (fun h=>Nat.ne_of_lt hlt2 h)
        | succ k2=>
         have hwp2:=hwp.out
         go_wp2_with (first|((with_reducible refine jjz (t:=28) (p:=89) rfl ?_);refine Kd.N_store k91 (w0:=wr) w3.heap.size rfl rfl 28 (.tmp 89) (.const (.slice none 0 0)) rfl 91 (k:Int) 2 _ (clOneof u) (.slice none 0 0) [.slice none 0 0] c (fun k=>okN okp w.heap.size k∧k≠g) (fun k=>(okN okp w.heap.size k∧k≠g)∧k≠g2) rfl ?of rfl rfl (by kernel_rfl) (fun q hq=>by rw [List.mem_singleton.1 hq];rfl) HV.out (Int.natCast_nonneg _) (Int.ofNat_lt.2 HLT2.out) HCL.out HCC.out (by decide) HFK.out (fun _ h=>h) (Below.refl _ _) ?_;(case of=>rw [Int.toNat_natCast];first|rfl|(show _=k*3+2;omega));intro wd hN hb hg;have n0_:=mk0 hN;have n1_:=mk0 (HH.out.belowN hb HNB.out);have n2_:=mk0 (HB.out.trans (hb.mono (Nat.le_trans HBO.out HNB.out)));clear HV HH HB;have HV:=n0_;have HH:=n1_;have HB:=n2_;clear n0_ n1_ n2_ hN hb hg))
         go_roundg k2
         case measure=>exact Nat.lt_succ_self k2
         case rel=>exact ⟨k+1,(by first|rfl|(rw [hwp2])|(simp [hwp2];done)),⟨(Nat.add_right_comm k 1 k2).trans HI2.out⟩,⟨HB.out⟩,⟨HH.out⟩,⟨by have h_:=HV.out;rw [Int.toNat_natCast,HSS2.out] at h_;exact h_⟩⟩
      · have dd1_:=ge_d hlt2
        have hwp2:=hwp1.out
        have hv:=HV.out
        rw [end_map _ _ _ hlt2] at hv
        have HV1:=mk0 hv
        clear hv HV
        go_wp2
        go_roundg k1
        case measure=>exact Nat.lt_succ_self k1
        case rel=>
         have hN:=HH.out.fill (x':=(clMx n) x) (okp:=fun k=>okN okp w.heap.size k∧k≠g) (by have h_:=k76_mkF wr (fun k=>okN okp w.heap.size k∧k≠g) ((clMx n) x) (le_map HE1.out) (F_map (Kd.F_mono (HH.out.F HF1.out) (fun k hk=>⟨hk.1,hk.2.2⟩))) (HE2.out) (Kd.F_mono (HH.out.F HF2.out) (fun k hk=>⟨hk.1,hk.2.2⟩)) (le_map HE3.out) (F_map (Kd.F_mono (HH.out.F HF3.out) (fun k hk=>⟨hk.1,hk.2.2⟩))) l4 (Kd.F_mono (HH.out.F g4) (fun k hk=>⟨hk.1,hk.2.2⟩)) (le_map HE5.out) (F_map (Kd.F_mono (HH.out.F HF5.out) (fun k hk=>⟨hk.1,hk.2.2⟩))) (le_map (show x.f6.length≤dI from by have h_:=(Kd.N_reads' HV1.out).2.1;exact h_)) (F_map (Kd.N_F HV1.out)) l7 (Kd.F_mono (HH.out.F g7) (fun k hk=>⟨hk.1,hk.2.2⟩)) l8 (Kd.F_mono (HH.out.F g8) (fun k hk=>⟨hk.1,hk.2.2⟩)) l9 (Kd.F_mono (HH.out.F g9) (fun k hk=>⟨hk.1,hk.2.2⟩)) (Nat.le_refl 0) (F_nil8 _ _);rw [show ((clMx n) x).f1.length=x.f1.length from List.length_map ..,show ((clMx n) x).f3.length=x.f3.length from List.length_map ..,show ((clMx n) x).f5.length=x.f5.length from List.length_map ..,show ((clMx n) x).f6.length=x.f6.length from List.length_map ..] at h_;exact h_) (fun _ h=>h)
         rw [HSS.out] at hN
         exact ⟨i+1,(by first|rfl|(rw [hwp2])|(simp [hwp2];done)),⟨(Nat.add_right_comm i 1 k1).trans HI1.out⟩,⟨HB.out⟩,⟨hN⟩⟩
  · have d0:=ge_d hlt
    go_wp2
    go_ret
    have hN:=HN.out
    rw [end_map _ _ _ hlt] at hN
    exact ⟨AO,cO,rfl,(by have:=(Kd.N_reads' hN).2.1;exact this),Kd.N_F hN,HB.out⟩
end Go.Proofs.Ytheoafenehckbaa.Ur
