/- What is read and written is read as it was (UndescKeeps). -/
import Derived.Test.YtheoafenehckbaaKUc
import Derived.Test.YtheoafenehckbaaKSh
import Derived.Lib.SlBytesConst
import Derived.Test.YtheoafenehckbaaKUg
import Derived.Test.YtheoafenehckbaaKT4
import Derived.WalkLawsBesides
namespace Go.Proofs.Ytheoafenehckbaa.Ur
open Wb Dp Rk Sp Go.RowKit GUndescBack YtheoafenehckbaaW.PrintWords YtheoafenehckbaaW.PrintLast YtheoafenehckbaaW.PrintMore Vb Fx Wr Wt Wj Wp Uq
set_option linter.unusedVariables false
set_option linter.unusedSimpArgs false
theorem new1u (w:World) (o:Obj):(w.alloc o).heap[w.heap.size]?=some o:=by simp [World.alloc,-World.alloc_eq]
theorem uM_c (b:List Int) (A:Option Addr) (c:Nat) (w:World) (hb:Bytes b) (hl:b.length < 4294967296) (hC:Kd.C (Kd.int .u8) w A b.length b) (hc:b.length≤c):Calls Try.prog 59 #[.slice A b.length c,.int .i64 0] w fun e w'=>Ans k76 w e w' (uMessage 64 b):=
 uMessage_c 64 (Nat.le_refl _) b A c w hb hl hC hc
theorem fok (b:List Int) (A:Option Addr) (c:Nat) (hb:Bytes b) (hl:b.length < 4294967296) (hc:b.length≤c) (w:World) (hC:Kd.C (Kd.int .u8) w A b.length b) (x:S30) (h:uFile (uMessage 64) b = .ok x) :
 Calls Try.prog 12 #[.slice A b.length c] w fun e w'=>∃ cs:List Value,e = .returned (.tuple #[.agg cs.toArray,.int .i64 0])∧k30.K w' x cs∧Below w.heap.size w w':=by
 refine (File_ok (uMessage 64) uM_c b A c hb hl hc w hC x h).mono fun e w' h_=>?_
 obtain ⟨cs,h1,h2,h3⟩:=h_
 exact ⟨cs,h1,Kd.FK_now h2,h3⟩
def xa:S30:=⟨(⟨#[97]⟩:ByteArray),(⟨#[]⟩:ByteArray),[],[],[],[],[],[],(⟨#[]⟩:ByteArray),[],[]⟩
theorem aw_read:uFile (uMessage 64) [10,1,97] = .ok xa:=by kernel_rfl
theorem C_three {W:World} {g:Nat} {fr:Nat × Nat} (hb:W.heap[g]?=some (.cells #[.int .u8 10,.int .u8 1,.int .u8 97] 5 fr)):Kd.C (Kd.int .u8) W (some ⟨g,0,none⟩) 3 [10,1,97]:=by
 refine ⟨rfl,by decide,fun _=>⟨_,rfl,fun j p hj=>?_⟩⟩
 match j,hj with
 | 0,hj=>
  obtain rfl:(10:Int)=p:=Option.some.inj hj
  refine ⟨[.int .u8 10],rfl,rfl,fun i u hi=>?_⟩
  match i,hi with
  | 0,hi=>rw [← hi];unfold World.cell?;show (match W.heap[g]? with|some (.cells cs _ _)=>_|_=>_)=_;rw [hb];rfl
  | i+1,hi=>cases hi
 | 1,hj=>
  obtain rfl:(1:Int)=p:=Option.some.inj hj
  refine ⟨[.int .u8 1],rfl,rfl,fun i u hi=>?_⟩
  match i,hi with
  | 0,hi=>rw [← hi];unfold World.cell?;show (match W.heap[g]? with|some (.cells cs _ _)=>_|_=>_)=_;rw [hb];rfl
  | i+1,hi=>cases hi
 | 2,hj=>
  obtain rfl:(97:Int)=p:=Option.some.inj hj
  refine ⟨[.int .u8 97],rfl,rfl,fun i u hi=>?_⟩
  match i,hi with
  | 0,hi=>rw [← hi];unfold World.cell?;show (match W.heap[g]? with|some (.cells cs _ _)=>_|_=>_)=_;rw [hb];rfl
  | i+1,hi=>cases hi
 | j+3,hj=>exact absurd hj (by simp)
theorem by3:Bytes [10,1,97]:=fun x hx=>by
 simp only [List.mem_cons,List.mem_nil_iff,or_false] at hx
 omega
theorem aw_file (w:World) (g:Nat) {fr:Nat × Nat} (hb:w.heap[g]?=some (.cells #[.int .u8 10,.int .u8 1,.int .u8 97] 5 fr)):Calls Try.prog 12 #[.slice (some ⟨g,0,none⟩) 3 3] w fun e w'=>∃ cs:List Value,e = .returned (.tuple #[.agg cs.toArray,.int .i64 0])∧k30.K w' xa cs∧Below w.heap.size w w':=
 fok [10,1,97] (some ⟨g,0,none⟩) 3 by3 (by decide) (by decide) w (C_three hb) xa aw_read
set_option maxHeartbeats 8000000 in
set_option maxRecDepth 100000 in
theorem awake_c (w:World):Calls Try.prog 6 #[] w fun e w'=>e = .returned (.bool true)∧Below w.heap.size w w':=by
 have t0:(xa.f0.toList==[97])=true:=by rw [Go.ByteArray.toList_eq];rfl
 have kc:=Go.Lib.run_convert_bytes_const (P:=Try.prog) w 28 5 #[.int .u8 10,.int .u8 1,.int .u8 97] 3 3 Try.underlying28 Try.underlying5
 go_enter Try.func6,Try.ntmps6
 go_wp2_with (first|((with_reducible refine jjq (N:=4) rfl ?_);refine Kd.event_run (w1:=w.alloc (.cells #[.int .u8 10,.int .u8 1,.int .u8 97] 5)) (v:=.slice (some ⟨w.heap.size,0,none⟩) 3 3) (by rfl) (by first|(go_simp;done)|(go_simp;rfl)) ?_)|(go_at_call 12;(with_reducible refine (aw_file _ _ (new1u w _)).mono ?_);rintro e w2 ⟨cs_,rfl,hK_,hb⟩;obtain ⟨A2,c2,A3,c3,A4,c4,A5,c5,A6,c6,A7,c7,A9,c9,A10,c10,ecs_,l2,g2,l3,g3,l4,g4,l5,g5,l6,g6,l7,g7,l9,g9,l10,g10⟩:=k30_open hK_;subst ecs_;have HB2:=mk0 (jj1 (jj7 (Below.refl w.heap.size w) (.cells #[.int .u8 10,.int .u8 1,.int .u8 97] 5 (3,4))) (jj7 (Below.refl w.heap.size w) (.cells #[.int .u8 10,.int .u8 1,.int .u8 97] 5 (3,4))).size hb);clear hb hK_ kc)|((with_reducible refine jjq (N:=1) rfl ?_);(try (refine jj6 (by rfl) ?_;dsimp only));refine bzX 1 #[.string (⟨#[]⟩:ByteArray),.string (⟨#[]⟩:ByteArray),.slice none 0 0,.slice none 0 0,.slice none 0 0,.slice none 0 0,.slice none 0 0,.slice none 0 0,.string (⟨#[]⟩:ByteArray),.slice none 0 0,.slice none 0 0] 30 ?_;intro gx hg9 w9 hbox hb9;have HB9:=mk0 hb9;have BX9:=mk0 hbox;have HG9:=mk0 hg9;clear hb9 hbox hg9)|((with_reducible refine jjz (t:=30) (p:=1) rfl ?_);refine Sw.store_whole rfl rfl rfl gx 30 _ _ rfl rfl BX9.out (by kernel_rfl) rfl rfl ?_;intro wq hS_ hbS_ hkS_;have hb:=hbS_ w2.heap.size w2 (Nat.le_of_eq HG9.out.symm) HB9.out;have BX:=mk0 hS_;have HG_gx:=HG9;clear hS_ hbS_ hkS_ BX9 HB9 HG9;have HBr:=mk0 hb;clear hb;have p0_:_=some ((.string xa.f0):Value):=bzC BX 0))
 go_ret
 exact ⟨rfl,jj1 HB2.out HB2.out.size HBr.out⟩
end Go.Proofs.Ytheoafenehckbaa.Ur
