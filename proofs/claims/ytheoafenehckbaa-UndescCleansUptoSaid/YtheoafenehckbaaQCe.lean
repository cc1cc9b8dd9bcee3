/- Enums cleaned, by the reference. -/
import Derived.Test.YtheoafenehckbaaQCx
import Derived.LoopN
import Derived.RegionTactic
namespace Go.Proofs.Ytheoafenehckbaa.Ur
open Go.RowKit GUndescBack YtheoafenehckbaaW.PrintWords YtheoafenehckbaaW.PrintLast YtheoafenehckbaaW.PrintMore Rk
set_option linter.unusedVariables false
set_option linter.unusedSimpArgs false
theorem ifoEnum:(Try.prog.info? 82).map (fun i=>(i.zero,i.size,i.bytes))=some (some (.agg #[.string (⟨#[]⟩:ByteArray),.slice none 0 0,.slice none 0 0,.slice none 0 0]),4,88):=by kernel_rfl
theorem ifoValue:(Try.prog.info? 93).map (fun i=>(i.zero,i.size,i.bytes))=some (some (.agg #[.string (⟨#[]⟩:ByteArray),.int .i64 0,.slice none 0 0,.slice none 0 0]),4,72):=by kernel_rfl
theorem clValue_FK {W:World} {ok:Nat→Prop} {x:S93} {c:List Value} (h:Kd.FK k93 W ok x c):Kd.FK k93 W ok (clValue x) (c.take 3++[.slice none 0 0]++c.drop 4):=by
 obtain ⟨A2,c2,A3,c3,rfl,l2,g2,l3,g3⟩:=k93_openF h
 exact k93_mkF W ok (clValue x) l2 g2 (A3:=none) (c3:=0) (Nat.le_refl 0) (F_nil8 W ok)
set_option maxHeartbeats 8000000 in
set_option maxRecDepth 100000 in
theorem cleanEnums_c (l:List S82) (hl:l.length≤4294967296) (hl2:∀ y∈l,y.f1.length≤4294967296) (okp:Nat→Prop) (A0:Option Addr) (c0:Nat) (w:World) (HF:Kd.F k82 w okp A0 l.length l) :
 Calls Try.prog 20 #[.slice A0 l.length c0] w fun e w'=>∃ A c,e = .returned (.slice A l.length c)∧l.length≤c∧Kd.F k82 w' (okN okp w.heap.size) A l.length (l.map clEnum)∧Below w.heap.size w w':=by
 have HFa:=mk0 HF
 have HL:=mk0 hl
 have HLL:=mk0 hl2
 clear hl HF hl2
 go_enter Try.func20,Try.ntmps20
 go_wp2_with (first|((with_reducible refine jk0 (N:=7) rfl ?_);refine Kd.N_append_rows k82 (w0:=w) w.heap.size rfl (.const (.slice none 0 0)) (.tmp 6) 25 82 (.agg #[.string (⟨#[]⟩:ByteArray),.slice none 0 0,.slice none 0 0,.slice none 0 0]) 88 rfl Try.underlying25 ifoEnum rfl (by decide) (by decide) (.slice none 0 0) [] l A0 l.length c0 (okN okp w.heap.size) (okp) rfl rfl (Kd.N_nil _ _ _ _ _) HFa.out (fun k hk=>⟨.inl hk,by simp [Value.ownBlock]⟩) (fun k hk=>.inr hk) (Below.refl _ _) ?aS ?aL ?_;(case aS=>exact Nat.le_refl _);(case aL=>have:=HL.out;simp only [List.length_nil];omega);intro v1 w1 hN hb hg hat;have HN:=mk0 (show Kd.N k82 82 w1 w.heap.size (okN okp w.heap.size) v1 l from hN);have HB:=mk0 hb;clear hN hb hg hat;obtain ⟨AO,cO,rfl⟩:=Kd.N_slice HN.out))
 go_loopg [10] l.length (fun kq v10 w'=>∃ i:Nat,v10 = .int .i64 (i:Int)∧Aside0 (i+kq=l.length)∧Aside0 (Below w.heap.size w w')∧Aside0 (Kd.N k82 82 w' w.heap.size (okN okp w.heap.size) (.slice AO l.length cO) ((l.take i).map clEnum++l.drop i)))
 case atStart=>
  exact ⟨0,rfl,⟨by omega⟩,⟨HB.out⟩,⟨HN.out⟩⟩
 case round=>
  clear HN HB
  obtain ⟨i,rfl,HI,HB,HN⟩:=hrel
  by_cases hlt:i < l.length
  · have d0:=lt_d hlt
    have HLT:=mk0 hlt
    have p0:=le_p i
    have q0:=lt_p hlt
    have hwp:=mk0 (wrap_lt i l.length hlt HL.out)
    obtain ⟨g,cap,ev,hbg,-⟩:=Kd.N_form HN.out (by rw [len_map];omega)
    injection ev with e1 e2 e3
    subst e1
    clear e2 e3
    obtain ⟨c,hcl,hH,hFK⟩:=Hl.new HN.out z82 hlt
    rw [get_map _ _ _ _ hlt] at hFK
    have hss:=set_map clEnum z82 l i hlt
    have hxm:l.getD i z82∈l:=by rw [List.getD_eq_getElem?_getD,List.getElem?_eq_getElem hlt];exact List.getElem_mem hlt
    obtain ⟨x,hx⟩:∃ x,l.getD i z82=x:=⟨_,rfl⟩
    rw [hx] at hFK hss hxm
    have HL2:=mk0 (HLL.out x hxm)
    have HSS:=mk0 hss
    obtain ⟨A1,c1,A2,c2,A3,c3,rfl,l1,g1,l2,g2,l3,g3⟩:=k82_openF hFK
    have HGB:=mk0 hbg
    have HBO:=mk0 HB.out.size
    obtain ⟨wo,hwo⟩:∃ z,z=wr:=⟨_,rfl⟩
    rw [← hwo] at HBO g1 g2 g3
    have HH:=mk0 (show Hl k82 82 wo w.heap.size (okN okp w.heap.size) g l.length cO ((l.take i).map clEnum++l.drop i) i wr [.string x.f0,.slice A1 x.f1.length c1,.slice A2 x.f2.length c2,.slice A3 x.f3.length c3] from by rw [hwo];exact hH)
    clear hss hx hxm hcl hH hbg HN hwo hFK
    have k1_:wr.cell? ⟨g,i*4+1,none⟩=some (.slice A1 x.f1.length c1):=HH.out.cell 1 rfl
    cases gk with
    | zero=>exact absurd HI.out (fun h=>Nat.ne_of_lt hlt h)
    | succ k1=>
     go_wp2_with (first|((with_reducible refine jjz (t:=28) (p:=16) rfl ?_);refine HH.out.event 3 (.slice none 0 0) (c':=[.string x.f0,.slice A1 x.f1.length c1,.slice A2 x.f2.length c2,.slice none 0 0]) ?_ rfl rfl ?of rfl (by decide) rfl rfl (by kernel_rfl) rfl rfl rfl;(case of=>first|rfl|(show _=i*4+3;omega));intro wa hH hg hB;have HB1:=mk0 (hB _ _ HGB.out HB.out);clear HB HH;have HB:=HB1;have HH:=mk0 hH;clear HB1 hH hg hB;clear k1_;have k1_:wa.cell? ⟨g,i*4+1,none⟩=some (.slice A1 x.f1.length c1:Value):=HH.out.cell 1 rfl)|((with_reducible refine jk0 (N:=24) rfl ?_);refine Kd.N_append_rows k93 (w0:=wa) wa.heap.size rfl (.const (.slice none 0 0)) (.tmp 23) 80 93 (.agg #[.string (⟨#[]⟩:ByteArray),.int .i64 0,.slice none 0 0,.slice none 0 0]) 72 rfl Try.underlying80 ifoValue rfl (by decide) (by decide) (.slice none 0 0) [] x.f1 A1 x.f1.length c1 (fun k=>okN okp w.heap.size k∧k≠g) (fun k=>okN okp w.heap.size k∧k < wo.heap.size∧k≠g) rfl rfl (Kd.N_nil _ _ _ _ _) (HH.out.F g1) (fun k hk=>⟨⟨hk.1,hk.2.2⟩,by simp [Value.ownBlock]⟩) (fun k hk=>⟨.inr (Nat.le_trans HB.out.size hk),fun e=>Nat.lt_irrefl _ (Nat.lt_of_lt_of_le (e ▸ Nat.lt_of_lt_of_le HH.out.glt HH.out.size) hk)⟩) (Below.refl _ _) ?aS ?aL ?_;(case aS=>exact Nat.le_refl _);(case aL=>have:=HL2.out;simp only [List.length_nil];omega);intro v1 wb hN hb hg hat;have HV:=mk0 (show Kd.N k93 93 wb wa.heap.size (fun k=>okN okp w.heap.size k∧k≠g) v1 x.f1 from hN);have HNB:=mk0 HH.out.size;have HB1:=mk0 (jj1 HB.out HB.out.size hb);have HH1:=mk0 (HH.out.below hb);clear HB HH;have HB:=HB1;have HH:=HH1;clear HB1 HH1 hN hb hg hat;obtain ⟨BI,dI,rfl⟩:=Kd.N_slice HV.out)|((with_reducible refine jjz (t:=80) (p:=26) rfl ?_);refine HH.out.event 1 (.slice BI x.f1.length dI) (c':=[.string x.f0,.slice BI x.f1.length dI,.slice A2 x.f2.length c2,.slice none 0 0]) ?_ rfl rfl ?of rfl (by decide) rfl rfl (by kernel_rfl) rfl rfl rfl;(case of=>first|rfl|(show _=i*4+1;omega));intro wc hH hg hB;have HV1:=mk0 (Kd.N_grown HV.out hg (fun k hk e=>hk.2 (by injection e)));have HB1:=mk0 (hB _ _ HGB.out HB.out);clear HB HH;have HB:=HB1;have HH:=mk0 hH;clear HB1 hH hg hB;clear k1_ HV;have HV:=HV1;clear HV1;have k1_:wc.cell? ⟨g,i*4+1,none⟩=some (.slice BI x.f1.length dI:Value):=HH.out.cell 1 rfl))
     have HI1:=HI
     have hwp1:=hwp
     clear HI hwp
     go_loopg [33] x.f1.length (fun kq v33 w'=>∃ k:Nat,v33 = .int .i64 (k:Int)∧Aside0 (k+kq=x.f1.length)∧Aside0 (Below w.heap.size w w')∧Aside0 (Hl k82 82 wo w.heap.size (okN okp w.heap.size) g l.length cO ((l.take i).map clEnum++l.drop i) i w' [.string x.f0,.slice BI x.f1.length dI,.slice A2 x.f2.length c2,.slice none 0 0])∧Aside0 (Kd.N k93 93 w' wa.heap.size (fun k=>okN okp w.heap.size k∧k≠g) (.slice BI x.f1.length dI) ((x.f1.take k).map clValue++x.f1.drop k)))
     case atStart=>exact ⟨0,rfl,⟨by omega⟩,⟨HB.out⟩,⟨HH.out⟩,⟨HV.out⟩⟩
     case round=>
      clear HB HH HV k1_
      obtain ⟨k,rfl,HI2,HB,HH,HV⟩:=hrel
      by_cases hlt2:k < x.f1.length
      · have hwp:=mk0 (wrap_lt k x.f1.length hlt2 HL2.out)
        have dd1_:=lt_d hlt2
        have HLT2:=mk0 hlt2
        have p1:=le_p k
        have q2:=lt_p hlt2
        obtain ⟨g2,cap2,ev,hbg2,-⟩:=Kd.N_form HV.out (by rw [len_map];omega)
        injection ev with e1 e2 e3
        subst e1
        clear e2 e3
        obtain ⟨c,hcl,hFK,hcc,hfr⟩:=Kd.N_elem HV.out z93 (k:Int) (Int.natCast_nonneg _) (Int.ofNat_lt.2 hlt2)
        rw [Int.toNat_natCast,get_map _ _ _ _ hlt2] at hFK
        have hss:=set_map clValue z93 x.f1 k hlt2
        obtain ⟨u,hu⟩:∃ u,x.f1.getD k z93=u:=⟨_,rfl⟩
        rw [hu] at hFK hss
        have HSS2:=mk0 hss
        have HGB2:=mk0 hbg2
        have HCL:=mk0 hcl
        have HCC:=mk0 hcc
        have HFK:=mk0 (clValue_FK hFK)
        clear hss hu hbg2 hcl hcc hFK hfr
        have k1_:wr.cell? ⟨g,i*4+1,none⟩=some (.slice (some ⟨g2,0,none⟩) x.f1.length dI):=HH.out.cell 1 rfl
        cases gk with
        | zero=>exact absurd HI2.out (fun h=>Nat.ne_of_lt hlt2 h)
        | succ k2=>
         have hwp2:=hwp.out
         go_wp2_with (first|((with_reducible refine jjz (t:=28) (p:=43) rfl ?_);refine Kd.N_store k93 (w0:=wr) wa.heap.size rfl rfl 28 (.tmp 43) (.const (.slice none 0 0)) rfl 93 (k:Int) 3 _ (clValue u) (.slice none 0 0) [.slice none 0 0] c (fun k=>okN okp w.heap.size k∧k≠g) (fun k=>(okN okp w.heap.size k∧k≠g)∧k≠g2) rfl ?of rfl rfl (by kernel_rfl) (fun q hq=>by rw [List.mem_singleton.1 hq];rfl) HV.out (Int.natCast_nonneg _) (Int.ofNat_lt.2 HLT2.out) HCL.out HCC.out (by decide) HFK.out (fun _ h=>h) (Below.refl _ _) ?_;(case of=>rw [Int.toNat_natCast];first|rfl|(show _=k*4+3;omega));intro wd hN hb hg;have n0_:=mk0 hN;have n1_:=mk0 (HH.out.belowN hb HNB.out);have n2_:=mk0 (HB.out.trans (hb.mono (Nat.le_trans HBO.out HNB.out)));clear HV HH HB;have HV:=n0_;have HH:=n1_;have HB:=n2_;clear n0_ n1_ n2_ hN hb hg))
         go_roundg k2
         case measure=>exact Nat.lt_succ_self k2
         case rel=>exact ⟨k+1,(by first|rfl|(rw [hwp2])|(simp [hwp2];done)),⟨(Nat.add_right_comm k 1 k2).trans HI2.out⟩,⟨HB.out⟩,⟨HH.out⟩,⟨by have h_:=HV.out;rw [Int.toNat_natCast,HSS2.out] at h_;exact h_⟩⟩
      · have dd1_:=ge_d hlt2
        have hwp2:=hwp1.out
        have hv:=HV.out
        rw [end_map _ _ _ hlt2] at hv
        have HV1:=mk0 hv
        clear hv HV
        go_wp2
        go_roundg k1
        case measure=>exact Nat.lt_succ_self k1
        case rel=>
         have hN:=HH.out.fill (x':=clEnum x) (okp:=fun k=>okN okp w.heap.size k∧k≠g) (by have h_:=k82_mkF wr (fun k=>okN okp w.heap.size k∧k≠g) (clEnum x) (le_map (show x.f1.length≤dI from by have h_:=(Kd.N_reads' HV1.out).2.1;exact h_)) (F_map (Kd.N_F HV1.out)) l2 (Kd.F_mono (HH.out.F g2) (fun k hk=>⟨hk.1,hk.2.2⟩)) (Nat.le_refl 0) (F_nil8 _ _);rw [show (clEnum x).f1.length=x.f1.length from List.length_map ..] at h_;exact h_) (fun _ h=>h)
         rw [HSS.out] at hN
         exact ⟨i+1,(by first|rfl|(rw [hwp2])|(simp [hwp2];done)),⟨(Nat.add_right_comm i 1 k1).trans HI1.out⟩,⟨HB.out⟩,⟨hN⟩⟩
  · have d0:=ge_d hlt
    go_wp2
    go_ret
    have hN:=HN.out
    rw [end_map _ _ _ hlt] at hN
    exact ⟨AO,cO,rfl,(by have:=(Kd.N_reads' hN).2.1;exact this),Kd.N_F hN,HB.out⟩
end Go.Proofs.Ytheoafenehckbaa.Ur
