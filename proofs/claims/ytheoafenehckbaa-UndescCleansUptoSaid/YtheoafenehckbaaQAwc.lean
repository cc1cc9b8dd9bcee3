/- undesc.File at a file that is but a name: chapter 12's awake. -/
import Derived.Test.YtheoafenehckbaaQA3
import Derived.Test.YtheoafenehckbaaQSh
import Derived.Lib.SlBytesConst
import Derived.Defers
import Derived.Recover
import Derived.Laws.Pointers
set_option maxHeartbeats 4000000
set_option maxRecDepth 100000
namespace Go.Proofs.Ytheoafenehckbaa.Ur
open Go.RowKit GUndescBack YtheoafenehckbaaW.PrintWords YtheoafenehckbaaW.PrintLast YtheoafenehckbaaW.PrintMore Vb Fx Wr Wt Wj Wp Uq
set_option linter.unusedVariables false
set_option linter.unusedSimpArgs false
theorem new1u (w:World) (o:Obj):(w.alloc o).heap[w.heap.size]?=some o:=by simp [World.alloc,-World.alloc_eq]
theorem catch_idle (ge:Nat) (w:World):CallsD Try.prog 55 #[.pointer (some ⟨ge,0,none⟩)] .returning w fun e u' w'=>e = .returned (.tuple #[])∧u' = .returning∧w'=w:=by
 refine callsD_of_wpS Try.func55 rfl fun c₀ cs hu=>?_
 apply wpS_seq
 apply wpS_region
 simp [wpOpsS,go_sem,recoverD,hu,Try.ntmps55,Exit.thenS]
 refine wpS_of_wp ?_
 change Code.wp Try.prog _ _ { tmps:=#[.pointer (some ⟨ge,0,none⟩),.nilIface,undef,undef,.nilIface,undef,undef,undef,undef,undef,undef,undef,undef,undef,undef,undef,undef],defers:=[] } w
 go_wp2
 cases c₀
 exact ⟨rfl,.returning,by simp_all,_,results_none rfl _ _ _,rfl,rfl,rfl⟩
def Filled (gf:Nat) (w w':World) (x:S30):Prop:=∃ cs:List Value,cs.length=11∧w'.heap[gf]?=some (.cells cs.toArray 30 (0,0))∧Kd.FK k30 w' (fun k=>w.heap.size≤k) x cs∧w.heap.size≤w'.heap.size∧(∀ k,k < w.heap.size→k≠gf→w'.heap[k]?=w.heap[k]?)∧(∀ B w0,B≤gf→B≤w.heap.size→Below B w0 w→Below B w0 w')
theorem file1_ca (gb gf:Nat) (b:List Int) (A:Option Addr) (c:Nat) (hb:Bytes b) (hl:b.length < 4294967296) (hc:b.length≤c) (w:World) (x:S30) (hfile:∀ w,Kd.C (Kd.int .u8) w A b.length b→Calls Try.prog 33 #[.slice A b.length c] w fun e w'=>Ans k30 w e w' (.ok x)) (hB:w.heap[gb]?=some (.cells #[.slice A b.length c] 28 (0,0))) (old:Array Value) (hold:old.size=11) (hF:w.heap[gf]?=some (.cells old 30 (0,0))) (hC:Kd.C (Kd.int .u8) w A b.length b) :
 Calls Try.prog 32 #[.pointer (some ⟨gb,0,none⟩),.pointer (some ⟨gf,0,none⟩)] w fun e w'=>e = .returned (.tuple #[])∧Filled gf w w' x:=by
 have HF:=mk0 hF
 have HC:=mk0 hC
 have HO:=mk0 hold
 have hcb:_=some (.slice A b.length c:Value):=(blk_cell hB 0).trans rfl
 clear hF hC hold
 go_enter Try.func32,Try.ntmps32
 go_wp2_with (first|(go_at_call 33;refine (hfile _ HC.out).mono ?_;rintro e w1 h1;obtain ⟨cs,rfl,hFK,hbz⟩:=h1;have HX:=mk0 hFK;have HB1:=mk0 hbz;have HL:=mk0 (k30.K_len hFK.now);have H1:=mk0 (k30.K_one hFK.now);have HF1:=mk0 (jj3 HF.out hbz);clear hFK hbz)|((with_reducible refine jjz (t:=30) (p:=1) rfl ?_);refine Sw.store_whole rfl rfl rfl gf 30 old cs.toArray rfl rfl HF1.out (by rw [List.size_toArray,HL.out];kernel_rfl) (HO.out.trans (by rw [List.size_toArray,HL.out];rfl)) (List.all_eq_true.2 (by intro q hq;exact H1.out q (by simpa using hq))) ?_;intro w2 h1_ h2_ h3_;have K1:=mk0 h1_;have K2:=mk0 h2_;have K3:=mk0 h3_;clear h1_ h2_ h3_))
 go_end0
 have hlt:=blk_lt HF.out
 have hsz:w1.heap.size≤w2.heap.size:=by
  have h0:=(K2.out 0 w1 (Nat.zero_le _) ⟨rfl,rfl,rfl,Nat.le_refl _,fun _ h=>absurd h (Nat.not_lt_zero _)⟩).size
  exact h0
 exact ⟨rfl,cs,HL.out,K1.out,Kd.FK_step HX.out (fun k hk _=>K3.out k (by omega)),Nat.le_trans HB1.out.size hsz,fun k hk hne=>(K3.out k hne).trans (HB1.out.block k hk),fun B w0 h1 h2 hb=>K2.out B w0 h1 (jj1 hb h2 HB1.out)⟩
theorem caught_ca (gb gf:Nat) (b:List Int) (A:Option Addr) (c:Nat) (hb:Bytes b) (hl:b.length < 4294967296) (hc:b.length≤c) (w:World) (x:S30) (hfile:∀ w,Kd.C (Kd.int .u8) w A b.length b→Calls Try.prog 33 #[.slice A b.length c] w fun e w'=>Ans k30 w e w' (.ok x)) (hB:w.heap[gb]?=some (.cells #[.slice A b.length c] 28 (0,0))) (old:Array Value) (hold:old.size=11) (hF:w.heap[gf]?=some (.cells old 30 (0,0))) (hC:Kd.C (Kd.int .u8) w A b.length b) :
 Calls Try.prog 31 #[.func (.func 32) #[] #[.pointer (some ⟨gb,0,none⟩),.pointer (some ⟨gf,0,none⟩)]] w fun e w'=>e = .returned (.int .i64 0)∧Filled gf w w' x:=by
 have HF:=mk0 hF
 have HC:=mk0 hC
 have HBb:=mk0 hB
 have HO:=mk0 hold
 clear hF hC hold hB
 have hmf:∀ (fn:Fn) (first cap:Array Value) (w:World),(Instr.makeFunc fn first cap).run Try.prog w = .ok (.func fn first cap) w:=fun _ _ _ _=>rfl
 go_enter_defers Try.func31,Try.ntmps31
 go_wp2_with (first|((with_reducible refine jk0 (N:=2) rfl ?_);(try (refine gate_guard (by rfl) ?_;dsimp only));refine bzX 2 #[.int .i64 0] 37 ?_;intro ge hge w1 hbox hb1;have HE:=mk0 (Nat.le_of_eq hge.symm);have BE:=mk0 hbox;have HB1:=mk0 hb1;clear hge hbox hb1)|(go_at_call 32;refine (file1_ca gb gf b A c hb hl hc _ x hfile (jj3 HBb.out HB1.out) old HO.out (jj3 HF.out HB1.out) (Kd.jj0 HC.out HB1.out)).mono ?_;rintro e w2 h2;obtain ⟨rfl,cs,f1,f2,f3,f4,f5,f6⟩:=h2;have HNE:=mk0 (show ge≠gf from fun e=>by have a_:=HE.out;have b_:=blk_lt HF.out;omega);have BE2:=mk0 ((f5 ge (blk_lt BE.out) HNE.out).trans BE.out);have F1:=mk0 f1;have F2:=mk0 f2;have F3:=mk0 f3;have F4:=mk0 f4;have F5:=mk0 f5;have F6:=mk0 f6;have c_:_=some (.int .i64 0:Value):=bzC BE2 0;have z_:=jj5 BE2.out 0;clear f1 f2 f3 f4 f5 f6)|((with_reducible refine jjz (t:=37) (p:=2) rfl ?_);refine czE ge 0 37 (.int .i64 0) BE2.out ?_;intro w9 h1_ h2_ h3_ h4_;have BE9:=mk0 h1_;have HF9:=mk0 h2_;have HK9:=mk0 h3_;have HS9:=mk0 h4_;clear h1_ h2_ h3_ h4_))
 refine leaves_cons (f:=55) (args:=#[.pointer (some ⟨ge,0,none⟩)]) (by simp) (by simp [go_sem]) ?_
 refine (catch_idle ge _).mono ?_
 rintro e u' w3 ⟨rfl,rfl,rfl⟩
 have hcell:_=some (.int .i64 0:Value):=bzC BE9 0
 have hgf:gf < w.heap.size:=blk_lt HF.out
 have hge:=HE.out
 have hfill:Filled gf w w3 x:=⟨cs,F1.out,(HK9.out gf (fun e=>HNE.out e.symm)).trans F2.out,Kd.FK_mono (Kd.FK_step (Kd.FK_mono (Foot.bound F3.out) (ok':=fun k=>w1.heap.size≤k∧k < w2.heap.size) (fun k hk=>hk)) (fun k hk _=>HK9.out k (fun e=>by have:=blk_lt BE.out;omega))) (fun k hk=>Nat.le_trans HB1.out.size hk.1),Nat.le_trans HB1.out.size (Nat.le_trans F4.out HS9.out),fun k hk hne=>(HK9.out k (by omega)).trans ((F5.out k (Nat.lt_of_lt_of_le hk HB1.out.size) hne).trans (HB1.out.block k hk)),fun B w0 h1 h2 hb=>HF9.out B w0 (by omega) (F6.out B w0 h1 (Nat.le_trans h2 HB1.out.size) (jj1 hb h2 HB1.out))⟩
 simp [Leaves,settle,results,Try.results31,go_sem,hcell]
 exact hfill
theorem File_oka (b:List Int) (A:Option Addr) (c:Nat) (hb:Bytes b) (hl:b.length < 4294967296) (hc:b.length≤c) (w:World) (hC:Kd.C (Kd.int .u8) w A b.length b) (x:S30) (hfile:∀ w,Kd.C (Kd.int .u8) w A b.length b→Calls Try.prog 33 #[.slice A b.length c] w fun e w'=>Ans k30 w e w' (.ok x)) :
 Calls Try.prog 12 #[.slice A b.length c] w fun e w'=>∃ cs:List Value,e = .returned (.tuple #[.agg cs.toArray,.int .i64 0])∧Kd.FK k30 w' (fun k=>w.heap.size≤k) x cs∧Below w.heap.size w w':=by
 have HC:=mk0 hC
 have hmf:∀ (fn:Fn) (first cap:Array Value) (w:World),(Instr.makeFunc fn first cap).run Try.prog w = .ok (.func fn first cap) w:=fun _ _ _ _=>rfl
 clear hC
 go_enter Try.func12,Try.ntmps12
 go_wp2_with (first|((with_reducible refine jk0 (N:=1) rfl ?_);(try (refine gate_guard (by rfl) ?_;dsimp only));refine bzX 1 #[.slice A b.length c] 28 ?_;intro gb hgb w1 hbox hb1;have BB:=mk0 hbox;have HB:=mk0 hb1;clear hgb hbox hb1)|((with_reducible refine jk0 (N:=2) rfl ?_);(try (refine gate_guard (by rfl) ?_;dsimp only));refine bzX 2 #[.string (⟨#[]⟩:ByteArray),.string (⟨#[]⟩:ByteArray),.slice none 0 0,.slice none 0 0,.slice none 0 0,.slice none 0 0,.slice none 0 0,.slice none 0 0,.string (⟨#[]⟩:ByteArray),.slice none 0 0,.slice none 0 0] 30 ?_;intro gf hgf w2 hbox hb2;have HG:=mk0 (show w.heap.size≤gf from hgf ▸ HB.out.size);have n0_:=mk0 (jj1 HB.out HB.out.size hb2);have n1_:=mk0 (jj3 BB.out hb2);have BF:=mk0 hbox;have HFS:=mk0 (blk_lt hbox);clear HB BB;have HB:=n0_;have BB:=n1_;clear n0_ n1_ hgf hbox hb2)|(go_at_call 31;refine (caught_ca gb gf b A c hb hl hc _ x hfile BB.out _ rfl BF.out (Kd.jj0 HC.out HB.out)).mono ?_;rintro e w3 h3;obtain ⟨rfl,cs,f1,f2,f3,f4,f5,f6⟩:=h3;have HX:=mk0 f3;obtain ⟨A2,c2,A3,c3,A4,c4,A5,c5,A6,c6,A7,c7,A9,c9,A10,c10,rfl,_⟩:=k30_openF f3;have BF3:=mk0 f2;have HB3:=mk0 (f6 _ _ HG.out HB.out.size HB.out);clear f1 f2 f3 f4 f5 f6;obtain ⟨x0_,x1_,x2_,x3_,x4_,x5_,x6_,x7_,x8_,x9_,x10_⟩:=cz11 BF3.out)|((with_reducible refine jjz (t:=30) (p:=2) rfl ?_);refine Sw.store_whole rfl rfl rfl gf 30 _ _ rfl rfl BF3.out (by kernel_rfl) rfl rfl ?_;intro w6 h1_ h2_ h3_;have BX6:=mk0 h1_;have HB6:=mk0 (h2_ _ _ HG.out HB3.out);have HK6:=mk0 h3_;clear h1_ h2_ h3_))
 refine bodyPost_ret (results_ct rfl _ _ gf 30 #[.string x.f0,.string x.f1,.slice A2 x.f2.length c2,.slice A3 x.f3.length c3,.slice A4 x.f4.length c4,.slice A5 x.f5.length c5,.slice A6 x.f6.length c6,.slice A7 x.f7.length c7,.string x.f8,.slice A9 x.f9.length c9,.slice A10 x.f10.length c10] (0,0) _ rfl BX6.out Try.underlying30 rfl (by kernel_rfl)) rfl ?_
 exact ⟨[.string x.f0,.string x.f1,.slice A2 x.f2.length c2,.slice A3 x.f3.length c3,.slice A4 x.f4.length c4,.slice A5 x.f5.length c5,.slice A6 x.f6.length c6,.slice A7 x.f7.length c7,.string x.f8,.slice A9 x.f9.length c9,.slice A10 x.f10.length c10],rfl,Kd.FK_mono (Kd.FK_step (Kd.FK_mono (Foot.bound HX.out) (ok':=fun k=>w2.heap.size≤k) (fun k hk=>hk.1)) (fun k hk _=>HK6.out k (fun e=>by have h_:=HFS.out;omega))) (fun k hk=>Nat.le_trans HB.out.size hk),HB6.out⟩
def xa:S30:=⟨(⟨#[97]⟩:ByteArray),(⟨#[]⟩:ByteArray),[],[],[],[],[],[],(⟨#[]⟩:ByteArray),[],[]⟩
theorem C_three {W:World} {g:Nat} {fr:Nat × Nat} (hb:W.heap[g]?=some (.cells #[.int .u8 10,.int .u8 1,.int .u8 97] 5 fr)):Kd.C (Kd.int .u8) W (some ⟨g,0,none⟩) 3 [10,1,97]:=by
 refine ⟨rfl,by decide,fun _=>⟨_,rfl,fun j p hj=>?_⟩⟩
 match j,hj with
 | 0,hj=>
  obtain rfl:(10:Int)=p:=Option.some.inj hj
  refine ⟨[.int .u8 10],rfl,rfl,fun i u hi=>?_⟩
  match i,hi with
  | 0,hi=>rw [← hi];unfold World.cell?;show (match W.heap[g]? with|some (.cells cs _ _)=>_|_=>_)=_;rw [hb];rfl
  | i+1,hi=>cases hi
 | 1,hj=>
  obtain rfl:(1:Int)=p:=Option.some.inj hj
  refine ⟨[.int .u8 1],rfl,rfl,fun i u hi=>?_⟩
  match i,hi with
  | 0,hi=>rw [← hi];unfold World.cell?;show (match W.heap[g]? with|some (.cells cs _ _)=>_|_=>_)=_;rw [hb];rfl
  | i+1,hi=>cases hi
 | 2,hj=>
  obtain rfl:(97:Int)=p:=Option.some.inj hj
  refine ⟨[.int .u8 97],rfl,rfl,fun i u hi=>?_⟩
  match i,hi with
  | 0,hi=>rw [← hi];unfold World.cell?;show (match W.heap[g]? with|some (.cells cs _ _)=>_|_=>_)=_;rw [hb];rfl
  | i+1,hi=>cases hi
 | j+3,hj=>exact absurd hj (by simp)
theorem by3:Bytes [10,1,97]:=fun x hx=>by
 simp only [List.mem_cons,List.mem_nil_iff,or_false] at hx
 omega
theorem aw_raws:raws [10,1,97]=([(⟨1,2,0,[97]⟩:S97)],(raws [10,1,97]).2.1,0):=by kernel_rfl
theorem aw_read1:readU stF1 [10,1,97] z30 = .ok (xa,[]):=by kernel_rfl
theorem aw_fileB (A:Option Addr) (c:Nat) (hc:3≤c) (w:World) (hC:Kd.C (Kd.int .u8) w A 3 [10,1,97]):Calls Try.prog 33 #[.slice A 3 c] w fun e w'=>Ans k30 w e w' (.ok xa):=
 fileB_c [10,1,97] A c w by3 (by decide) hC hc _ _ aw_raws (fun r hr=>by rw [List.mem_singleton.1 hr];rfl) xa [] aw_read1
theorem aw_file (w:World) (g:Nat) {fr:Nat × Nat} (hb:w.heap[g]?=some (.cells #[.int .u8 10,.int .u8 1,.int .u8 97] 5 fr)):Calls Try.prog 12 #[.slice (some ⟨g,0,none⟩) 3 3] w fun e w'=>∃ cs:List Value,e = .returned (.tuple #[.agg cs.toArray,.int .i64 0])∧k30.K w' xa cs∧Below w.heap.size w w':=
 by
 refine (File_oka [10,1,97] (some ⟨g,0,none⟩) 3 by3 (by decide) (by decide) w (C_three hb) xa (fun w hC=>aw_fileB _ 3 (by decide) w hC)).mono fun e w' h_=>?_
 obtain ⟨cs,h1,h2,h3⟩:=h_
 exact ⟨cs,h1,Kd.FK_now h2,h3⟩
theorem awake_c (w:World):Calls Try.prog 6 #[] w fun e w'=>e = .returned (.bool true)∧Below w.heap.size w w':=by
 have t0:(xa.f0.toList==[97])=true:=by rw [Go.ByteArray.toList_eq];rfl
 have kc:=Go.Lib.run_convert_bytes_const (P:=Try.prog) w 28 5 #[.int .u8 10,.int .u8 1,.int .u8 97] 3 3 Try.underlying28 Try.underlying5
 go_enter Try.func6,Try.ntmps6
 go_wp2_with (first|((with_reducible refine jk0 (N:=4) rfl ?_);refine Kd.event_run (w1:=w.alloc (.cells #[.int .u8 10,.int .u8 1,.int .u8 97] 5)) (v:=.slice (some ⟨w.heap.size,0,none⟩) 3 3) (by rfl) (by first|(go_simp;done)|(go_simp;rfl)) ?_)|(go_at_call 12;(with_reducible refine (aw_file _ _ (new1u w _)).mono ?_);rintro e w2 ⟨cs_,rfl,hK_,hb⟩;obtain ⟨A2,c2,A3,c3,A4,c4,A5,c5,A6,c6,A7,c7,A9,c9,A10,c10,ecs_,l2,g2,l3,g3,l4,g4,l5,g5,l6,g6,l7,g7,l9,g9,l10,g10⟩:=k30_open hK_;subst ecs_;have HB2:=mk0 (jj1 (jj6 (Below.refl w.heap.size w) (.cells #[.int .u8 10,.int .u8 1,.int .u8 97] 5 (3,4))) (jj6 (Below.refl w.heap.size w) (.cells #[.int .u8 10,.int .u8 1,.int .u8 97] 5 (3,4))).size hb);clear hb hK_ kc)|((with_reducible refine jk0 (N:=1) rfl ?_);(try (refine gate_guard (by rfl) ?_;dsimp only));refine bzX 1 #[.string (⟨#[]⟩:ByteArray),.string (⟨#[]⟩:ByteArray),.slice none 0 0,.slice none 0 0,.slice none 0 0,.slice none 0 0,.slice none 0 0,.slice none 0 0,.string (⟨#[]⟩:ByteArray),.slice none 0 0,.slice none 0 0] 30 ?_;intro gx hg9 w9 hbox hb9;have HB9:=mk0 hb9;have BX9:=mk0 hbox;have HG9:=mk0 hg9;clear hb9 hbox hg9)|((with_reducible refine jjz (t:=30) (p:=1) rfl ?_);refine Sw.store_whole rfl rfl rfl gx 30 _ _ rfl rfl BX9.out (by kernel_rfl) rfl rfl ?_;intro wq hS_ hbS_ hkS_;have hb:=hbS_ w2.heap.size w2 (Nat.le_of_eq HG9.out.symm) HB9.out;have BX:=mk0 hS_;have HG_gx:=HG9;clear hS_ hbS_ hkS_ BX9 HB9 HG9;have HBr:=mk0 hb;clear hb;have p0_:_=some ((.string xa.f0):Value):=bzC BX 0))
 go_ret
 exact ⟨rfl,jj1 HB2.out HB2.out.size HBr.out⟩
end Go.Proofs.Ytheoafenehckbaa.Ur
