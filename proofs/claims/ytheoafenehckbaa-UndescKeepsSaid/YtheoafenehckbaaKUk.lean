/- What is read and written is read as it was (UndescKeeps). -/
import Derived.Test.YtheoafenehckbaaKUc
import Derived.Test.YtheoafenehckbaaKSh
import Derived.Lib.SlBytesConst
import Derived.Test.YtheoafenehckbaaKUg
import Derived.Test.YtheoafenehckbaaKT4
import Derived.WalkLawsBesides
set_option maxHeartbeats 8000000
set_option maxRecDepth 100000
namespace Go.Proofs.Ytheoafenehckbaa.Ur
open Wb Dp Rk Sp Go.RowKit GUndescBack YtheoafenehckbaaW.PrintWords YtheoafenehckbaaW.PrintLast YtheoafenehckbaaW.PrintMore Vb Fx Wr Wt Wj Wp Uq
set_option linter.unusedVariables false
set_option linter.unusedSimpArgs false
theorem new1u (w:World) (o:Obj):(w.alloc o).heap[w.heap.size]?=some o:=by simp [World.alloc,-World.alloc_eq]
theorem uM_c (b:List Int) (A:Option Addr) (c:Nat) (w:World) (hb:Bytes b) (hl:b.length < 4294967296) (hC:Kd.C (Kd.int .u8) w A b.length b) (hc:b.length≤c):Calls Try.prog 59 #[.slice A b.length c,.int .i64 0] w fun e w'=>Ans k76 w e w' (uMessage 64 b):=
 uMessage_c 64 (Nat.le_refl _) b A c w hb hl hC hc
theorem fok (b:List Int) (A:Option Addr) (c:Nat) (hb:Bytes b) (hl:b.length < 4294967296) (hc:b.length≤c) (w:World) (hC:Kd.C (Kd.int .u8) w A b.length b) (x:S30) (h:uFile (uMessage 64) b = .ok x) :
 Calls Try.prog 12 #[.slice A b.length c] w fun e w'=>∃ cs:List Value,e = .returned (.tuple #[.agg cs.toArray,.int .i64 0])∧k30.K w' x cs∧Below w.heap.size w w':=by
 refine (File_ok (uMessage 64) uM_c b A c hb hl hc w hC x h).mono fun e w' h_=>?_
 obtain ⟨cs,h1,h2,h3⟩:=h_
 exact ⟨cs,h1,Kd.FK_now h2,h3⟩
def xa:S30:=⟨(⟨#[97]⟩:ByteArray),(⟨#[]⟩:ByteArray),[],[],[],[],[],[],(⟨#[]⟩:ByteArray),[],[]⟩
theorem aw_read:uFile (uMessage 64) [10,1,97] = .ok xa:=by kernel_rfl
theorem C_three {W:World} {g:Nat} {fr:Nat × Nat} (hb:W.heap[g]?=some (.cells #[.int .u8 10,.int .u8 1,.int .u8 97] 5 fr)):Kd.C (Kd.int .u8) W (some ⟨g,0,none⟩) 3 [10,1,97]:=by
 refine ⟨rfl,by decide,fun _=>⟨_,rfl,fun j p hj=>?_⟩⟩
 match j,hj with
 | 0,hj=>
  obtain rfl:(10:Int)=p:=Option.some.inj hj
  refine ⟨[.int .u8 10],rfl,rfl,fun i u hi=>?_⟩
  match i,hi with
  | 0,hi=>rw [← hi];unfold World.cell?;show (match W.heap[g]? with|some (.cells cs _ _)=>_|_=>_)=_;rw [hb];rfl
  | i+1,hi=>cases hi
 | 1,hj=>
  obtain rfl:(1:Int)=p:=Option.some.inj hj
  refine ⟨[.int .u8 1],rfl,rfl,fun i u hi=>?_⟩
  match i,hi with
  | 0,hi=>rw [← hi];unfold World.cell?;show (match W.heap[g]? with|some (.cells cs _ _)=>_|_=>_)=_;rw [hb];rfl
  | i+1,hi=>cases hi
 | 2,hj=>
  obtain rfl:(97:Int)=p:=Option.some.inj hj
  refine ⟨[.int .u8 97],rfl,rfl,fun i u hi=>?_⟩
  match i,hi with
  | 0,hi=>rw [← hi];unfold World.cell?;show (match W.heap[g]? with|some (.cells cs _ _)=>_|_=>_)=_;rw [hb];rfl
  | i+1,hi=>cases hi
 | j+3,hj=>exact absurd hj (by simp)
theorem by3:Bytes [10,1,97]:=fun x hx=>by
 simp only [List.mem_cons,List.mem_nil_iff,or_false] at hx
 omega
theorem aw_file (w:World) (g:Nat) {fr:Nat × Nat} (hb:w.heap[g]?=some (.cells #[.int .u8 10,.int .u8 1,.int .u8 97] 5 fr)):Calls Try.prog 12 #[.slice (some ⟨g,0,none⟩) 3 3] w fun e w'=>∃ cs:List Value,e = .returned (.tuple #[.agg cs.toArray,.int .i64 0])∧k30.K w' xa cs∧Below w.heap.size w w':=
 fok [10,1,97] (some ⟨g,0,none⟩) 3 by3 (by decide) (by decide) w (C_three hb) xa aw_read
theorem awake_c (w:World):Calls Try.prog 6 #[] w fun e w'=>e = .returned (.bool true)∧Below w.heap.size w w':=by
 have t0:(xa.f0.toList==[97])=true:=by rw [Go.ByteArray.toList_eq];rfl
 have kc:=Go.Lib.run_convert_bytes_const (P:=Try.prog) w 28 5 #[.int .u8 10,.int .u8 1,.int .u8 97] 3 3 Try.underlying28 Try.underlying5
 go_enter Try.func6,Try.ntmps6
 go_wp2_with (first|((with_reducible refine jk (N:=4) rfl ?_);refine Kd.event_run (w1:=w.alloc (.cells #[.int .u8 10,.int .u8 1,.int .u8 97] 5)) (v:=.slice (some ⟨w.heap.size,0,none⟩) 3 3) (by rfl) (by first|(go_simp;done)|(go_simp;rfl)) ?_)|(go_at_call 12;(with_reducible refine (aw_file _ _ (new1u w _)).mono ?_);rintro e w2 ⟨cs_,rfl,hK_,hb⟩;obtain ⟨A2,c2,A3,c3,A4,c4,A5,c5,A6,c6,A7,c7,A9,c9,A10,c10,ecs_,l2,g2,l3,g3,l4,g4,l5,g5,l6,g6,l7,g7,l9,g9,l10,g10⟩:=k30_open hK_;subst ecs_;have HB2:=mk0 (jj1 (jj6 (Below.refl w.heap.size w) (.cells #[.int .u8 10,.int .u8 1,.int .u8 97] 5 (3,4))) (jj6 (Below.refl w.heap.size w) (.cells #[.int .u8 10,.int .u8 1,.int .u8 97] 5 (3,4))).size hb);clear hb hK_ kc)|((with_reducible refine jk (N:=1) rfl ?_);(try (refine jj7 (by rfl) ?_;dsimp only));refine bzX 1 #[.string (⟨#[]⟩:ByteArray),.string (⟨#[]⟩:ByteArray),.slice none 0 0,.slice none 0 0,.slice none 0 0,.slice none 0 0,.slice none 0 0,.slice none 0 0,.string (⟨#[]⟩:ByteArray),.slice none 0 0,.slice none 0 0] 30 ?_;intro gx hg9 w9 hbox hb9;have HB9:=mk0 hb9;have BX9:=mk0 hbox;have HG9:=mk0 hg9;clear hb9 hbox hg9)|((with_reducible refine jk1 (t:=30) (p:=1) rfl ?_);refine Sw.jq1 rfl rfl rfl gx 30 _ _ rfl rfl BX9.out (by kernel_rfl) rfl rfl ?_;intro wq hS_ hbS_ hkS_;have hb:=hbS_ w2.heap.size w2 (Nat.le_of_eq HG9.out.symm) HB9.out;have BX:=mk0 hS_;have HG_gx:=HG9;clear hS_ hbS_ hkS_ BX9 HB9 HG9;have HBr:=mk0 hb;clear hb;have p0_:_=some ((.string xa.f0):Value):=bzC BX 0))
 go_ret
 exact ⟨rfl,jj1 HB2.out HB2.out.size HBr.out⟩
theorem keeps_long (b:List Int) (hb:Bytes b) (A0:Option Addr) (c0:Nat) (hc:b.length≤c0) (w:World) (hC:Kd.C (Kd.int .u8) w A0 b.length b) (h:¬ b.length≤3000):Calls Try.prog 4 #[.slice A0 b.length c0] w fun e w'=>e = .returned (.bool true)∧Below w.heap.size w w':=by
 have HC:=mk0 hC
 have HBY:=mk0 hb
 have HCC:=mk0 hc
 have d0:decide ((b.length:Int) > 3000)=true:=decide_eq_true (by omega)
 clear hC hb hc
 go_enter Try.func4,Try.ntmps4
 go_wp2_with (first|(go_at_call 6;(with_reducible refine (awake_c _).mono ?_);rintro e w1 ⟨rfl,hb⟩;have HB:=mk0 hb;have hC1:=mk0 (Kd.jj2 HC.out hb);clear hb))
 go_ret
 exact ⟨rfl,HB.out⟩
theorem keeps_bad (b:List Int) (hb:Bytes b) (A0:Option Addr) (c0:Nat) (hc:b.length≤c0) (w:World) (hC:Kd.C (Kd.int .u8) w A0 b.length b) (h:b.length≤3000) (n:Int) (hn:n≠0) (he:uFile (uMessage 64) b = .error n):Calls Try.prog 4 #[.slice A0 b.length c0] w fun e w'=>e = .returned (.bool true)∧Below w.heap.size w w':=by
 have HC:=mk0 hC
 have HBY:=mk0 hb
 have HCC:=mk0 hc
 have HL:=mk0 h
 have d0:decide ((b.length:Int) > 3000)=false:=decide_eq_false (by omega)
 have HN:=mk0 hn
 have HE:=mk0 he
 have hne:(n != 0)=true:=bne_iff_ne.2 hn
 have t0:((⟨#[]⟩:ByteArray).toList==(⟨#[]⟩:ByteArray).toList)=true:=beq_self_eq_true _
 clear h hn he
 clear hC hb hc
 go_enter Try.func4,Try.ntmps4
 go_wp2_with (first|(go_at_call 6;(with_reducible refine (awake_c _).mono ?_);rintro e w1 ⟨rfl,hb⟩;have HB:=mk0 hb;have hC1:=mk0 (Kd.jj2 HC.out hb);clear hb)|(go_at_call 12;(with_reducible refine (File_bad (uMessage 64) uM_c b A0 c0 HBY.out (by have:=HL.out;omega) HCC.out _ hC1.out n HN.out HE.out).mono ?_);rintro e w2 ⟨rfl,hb⟩;have HB2:=mk0 (jj1 HB.out HB.out.size hb);clear hb)|((with_reducible refine jk (N:=3) rfl ?_);(try (refine jj7 (by rfl) ?_;dsimp only));refine bzX 3 #[.string (⟨#[]⟩:ByteArray),.string (⟨#[]⟩:ByteArray),.slice none 0 0,.slice none 0 0,.slice none 0 0,.slice none 0 0,.slice none 0 0,.slice none 0 0,.string (⟨#[]⟩:ByteArray),.slice none 0 0,.slice none 0 0] 30 ?_;intro gx hg9 w9 hbox hb9;have HB9:=mk0 hb9;have BX9:=mk0 hbox;have HG9:=mk0 hg9;clear hb9 hbox hg9)|((with_reducible refine jk1 (t:=30) (p:=3) rfl ?_);refine Sw.jq1 rfl rfl rfl gx 30 _ _ rfl rfl BX9.out (by kernel_rfl) rfl rfl ?_;intro wq hS_ hbS_ hkS_;have hb:=hbS_ w2.heap.size w2 (Nat.le_of_eq HG9.out.symm) HB9.out;have BX:=mk0 hS_;have HG_gx:=HG9;clear hS_ hbS_ hkS_ BX9 HB9 HG9;have HBr:=mk0 hb;clear hb;have p0_:_=some ((.string (⟨#[]⟩:ByteArray)):Value):=bzC BX 0;have p4_:_=some ((.slice none 0 0):Value):=bzC BX 4))
 go_ret
 exact ⟨rfl,jj1 HB2.out HB2.out.size HBr.out⟩
theorem keeps_ok (b:List Int) (hb:Bytes b) (A0:Option Addr) (c0:Nat) (hc:b.length≤c0) (w:World) (hC:Kd.C (Kd.int .u8) w A0 b.length b) (h:b.length≤3000) (x:S30) (he:uFile (uMessage 64) b = .ok x):Calls Try.prog 4 #[.slice A0 b.length c0] w fun e w'=>e = .returned (.bool true)∧Below w.heap.size w w':=by
 have ⟨wfx,kx,dx⟩:=uFile_wf 64 (uMessage 64) (fun b y h1 h2 h3=>uMessage_wf 64 b y h1 h2 h3) b hb (by omega) x he
 have gx:=good_File x wfx (by omega)
 have he2:=uFile_b x (uMessage 64) (fun y hy=>uMessage_b 64 y (wfx.out.1 y hy) (by have:=hL_mem hy;omega) (by have h_:=sum_le bk76 x.f4 y hy;unfold bk30 at kx;omega)) wfx (by omega)
 have HBB:=mk0 (bFile_bytes x wfx)
 have HLL:Aside0 ((bFile x).length < 4294967296):=⟨by have:=len30_ x (by omega);omega⟩
 have HG:=mk0 gx
 have HKx:Aside0 (bk30 x≤4294967296):=⟨by omega⟩
 have HD:=mk0 dx
 have HE2:=mk0 he2
 have HC:=mk0 hC
 have HBY:=mk0 hb
 have HCC:=mk0 hc
 have HL:=mk0 h
 have d0:decide ((b.length:Int) > 3000)=false:=decide_eq_false (by omega)
 have HE:=mk0 he
 clear h he wfx kx dx gx he2
 clear hC hb hc
 go_enter Try.func4,Try.ntmps4
 go_wp2_with (first|(go_at_call 6;(with_reducible refine (awake_c _).mono ?_);rintro e w1 ⟨rfl,hb⟩;have HB:=mk0 hb;have hC1:=mk0 (Kd.jj2 HC.out hb);clear hb)|(go_at_call 12;(with_reducible refine (fok b A0 c0 HBY.out (by have:=HL.out;omega) HCC.out _ hC1.out x HE.out).mono ?_);rintro e w2 ⟨cs_,rfl,hK_,hb⟩;obtain ⟨A2,c2,A3,c3,A4,c4,A5,c5,A6,c6,A7,c7,A9,c9,A10,c10,ecs_,l2,g2,l3,g3,l4,g4,l5,g5,l6,g6,l7,g7,l9,g9,l10,g10⟩:=k30_open hK_;subst ecs_;have HB2:=mk0 (jj1 HB.out HB.out.size hb);clear hb hK_)|((with_reducible refine jk (N:=3) rfl ?_);(try (refine jj7 (by rfl) ?_;dsimp only));refine bzX 3 #[.string (⟨#[]⟩:ByteArray),.string (⟨#[]⟩:ByteArray),.slice none 0 0,.slice none 0 0,.slice none 0 0,.slice none 0 0,.slice none 0 0,.slice none 0 0,.string (⟨#[]⟩:ByteArray),.slice none 0 0,.slice none 0 0] 30 ?_;intro gx hg9 w9 hbox hb9;have HB9:=mk0 hb9;have BX9:=mk0 hbox;have HG9:=mk0 hg9;clear hb9 hbox hg9)|((with_reducible refine jk1 (t:=30) (p:=3) rfl ?_);refine Sw.jq1 rfl rfl rfl gx 30 _ _ rfl rfl BX9.out (by kernel_rfl) rfl rfl ?_;intro wq hS_ hbS_ hkS_;have hb:=hbS_ w2.heap.size w2 (Nat.le_of_eq HG9.out.symm) HB9.out;have BX:=mk0 hS_;have HG_gx:=HG9;clear hS_ hbS_ hkS_ BX9 HB9 HG9;have HBr:=mk0 hb;clear hb;obtain ⟨p0_,p1_,p2_,p3_,p4_,p5_,p6_,p7_,p8_,p9_,p10_⟩:=cz11 BX.out)|(go_at_call 11;(with_reducible refine (R1.rbytes_ok x HG.out HKx.out _ [.string x.f0,.string x.f1,.slice A2 x.f2.length c2,.slice A3 x.f3.length c3,.slice A4 x.f4.length c4,.slice A5 x.f5.length c5,.slice A6 x.f6.length c6,.slice A7 x.f7.length c7,.string x.f8,.slice A9 x.f9.length c9,.slice A10 x.f10.length c10] (k30_mk _ x l2 (Kd.jj2 g2 HBr.out) l3 (Kd.jj2 g3 HBr.out) l4 (Kd.jj2 g4 HBr.out) l5 (Kd.jj2 g5 HBr.out) l6 (Kd.jj2 g6 HBr.out) l7 (Kd.jj2 g7 HBr.out) l9 (Kd.jj2 g9 HBr.out) l10 (Kd.jj2 g10 HBr.out)) HD.out).mono ?_);rintro e w4 ⟨v_,rfl,hR,hb⟩;obtain ⟨R_,r_,ex_⟩:=Kd.jk7 hR;subst ex_;have HCB:=mk0 (Kd.jjj hR).2.2;have HLB:=mk0 (Kd.jjj hR).2.1;replace HBr:=mk0 (jj1 HBr.out HBr.out.size hb);replace BX:=mk0 (jj0 BX.out hb);(try clear p0_);(try clear p1_);(try clear p2_);(try clear p3_);(try clear p4_);(try clear p5_);(try clear p6_);(try clear p7_);(try clear p8_);(try clear p9_);(try clear p10_);clear hb hR;obtain ⟨p0_,p1_,p2_,p3_,p4_,p5_,p6_,p7_,p8_,p9_,p10_⟩:=cz11 BX.out)|(go_at_call 12;(with_reducible refine (fok (bFile x) R_ r_ HBB.out HLL.out (by exact HLB.out) _ HCB.out x HE2.out).mono ?_);rintro e w5 ⟨cs_,rfl,hK_,hb⟩;obtain ⟨B2,d2,B3,d3,B4,d4,B5,d5,B6,d6,B7,d7,B9,d9,B10,d10,ecs_,m2,k2,m3,k3,m4,k4,m5,k5,m6,k6,m7,k7,m9,k9,m10,k10⟩:=k30_open hK_;subst ecs_;replace HBr:=mk0 (jj1 HBr.out HBr.out.size hb);replace BX:=mk0 (jj0 BX.out hb);(try clear p0_);(try clear p1_);(try clear p2_);(try clear p3_);(try clear p4_);(try clear p5_);(try clear p6_);(try clear p7_);(try clear p8_);(try clear p9_);(try clear p10_);clear hb hK_;obtain ⟨p0_,p1_,p2_,p3_,p4_,p5_,p6_,p7_,p8_,p9_,p10_⟩:=cz11 BX.out)|((with_reducible refine jk (N:=7) rfl ?_);(try (refine jj7 (by rfl) ?_;dsimp only));refine bzX 7 #[.string (⟨#[]⟩:ByteArray),.string (⟨#[]⟩:ByteArray),.slice none 0 0,.slice none 0 0,.slice none 0 0,.slice none 0 0,.slice none 0 0,.slice none 0 0,.string (⟨#[]⟩:ByteArray),.slice none 0 0,.slice none 0 0] 30 ?_;intro gy hg9 w9 hbox hb9;have HB9:=mk0 hb9;have BX9:=mk0 hbox;have HG9:=mk0 hg9;clear hb9 hbox hg9)|((with_reducible refine jk1 (t:=30) (p:=7) rfl ?_);refine Sw.jq1 rfl rfl rfl gy 30 _ _ rfl rfl BX9.out (by kernel_rfl) rfl rfl ?_;intro wq hS_ hbS_ hkS_;have hb:=hbS_ w5.heap.size w5 (Nat.le_of_eq HG9.out.symm) HB9.out;have BY:=mk0 hS_;have HG_gy:=HG9;clear hS_ hbS_ hkS_ BX9 HB9 HG9;have HBs:=mk0 hb;replace HBr:=mk0 (jj1 HBr.out HBr.out.size hb);replace BX:=mk0 (jj0 BX.out hb);(try clear p0_);(try clear p1_);(try clear p2_);(try clear p3_);(try clear p4_);(try clear p5_);(try clear p6_);(try clear p7_);(try clear p8_);(try clear p9_);(try clear p10_);clear hb;obtain ⟨p0_,p1_,p2_,p3_,p4_,p5_,p6_,p7_,p8_,p9_,p10_⟩:=cz11 BX.out;obtain ⟨q0_,q1_,q2_,q3_,q4_,q5_,q6_,q7_,q8_,q9_,q10_⟩:=cz11 BY.out)|(go_at_call 13;(with_reducible refine (R1.rsame_t x HG.out HKx.out HD.out _ [.string x.f0,.string x.f1,.slice A2 x.f2.length c2,.slice A3 x.f3.length c3,.slice A4 x.f4.length c4,.slice A5 x.f5.length c5,.slice A6 x.f6.length c6,.slice A7 x.f7.length c7,.string x.f8,.slice A9 x.f9.length c9,.slice A10 x.f10.length c10] [.string x.f0,.string x.f1,.slice B2 x.f2.length d2,.slice B3 x.f3.length d3,.slice B4 x.f4.length d4,.slice B5 x.f5.length d5,.slice B6 x.f6.length d6,.slice B7 x.f7.length d7,.string x.f8,.slice B9 x.f9.length d9,.slice B10 x.f10.length d10] (k30_mk _ x l2 (Kd.jj2 g2 HBr.out) l3 (Kd.jj2 g3 HBr.out) l4 (Kd.jj2 g4 HBr.out) l5 (Kd.jj2 g5 HBr.out) l6 (Kd.jj2 g6 HBr.out) l7 (Kd.jj2 g7 HBr.out) l9 (Kd.jj2 g9 HBr.out) l10 (Kd.jj2 g10 HBr.out)) (k30_mk _ x m2 (Kd.jj2 k2 HBs.out) m3 (Kd.jj2 k3 HBs.out) m4 (Kd.jj2 k4 HBs.out) m5 (Kd.jj2 k5 HBs.out) m6 (Kd.jj2 k6 HBs.out) m7 (Kd.jj2 k7 HBs.out) m9 (Kd.jj2 k9 HBs.out) m10 (Kd.jj2 k10 HBs.out))).mono ?_);rintro e w7 ⟨rfl,hb⟩;replace HBr:=mk0 (jj1 HBr.out HBr.out.size hb);clear hb))
 go_ret
 exact ⟨rfl,jj1 HB2.out HB2.out.size HBr.out⟩
theorem keeps_c (b:List Int) (hg:∀ y∈b,(Lit.int .u8 y).wf=true) (A0:Option Addr) (c0:Nat) (hc:b.length≤c0) (w:World) (hC:Kd.C (Kd.int .u8) w A0 b.length b):Calls Try.prog 4 #[.slice A0 b.length c0] w fun e w'=>e = .returned (.bool true)∧Below w.heap.size w w':=by
 have hb:=bytes_of_wf hg
 by_cases h:b.length≤3000
 · cases he:uFile (uMessage 64) b with
   | error n=>exact keeps_bad b hb A0 c0 hc w hC h n (uFile_nz (uMessage 64) (uMessage_nz 64) b n he) he
   | ok x=>exact keeps_ok b hb A0 c0 hc w hC h x he
 · exact keeps_long b hb A0 c0 hc w hC h
end Go.Proofs.Ytheoafenehckbaa.Ur
