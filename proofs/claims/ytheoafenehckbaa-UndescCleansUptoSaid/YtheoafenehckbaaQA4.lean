/- Words: QRp, QRq, QRv, QR1, QR2. -/
import Derived.Test.YtheoafenehckbaaQGUndescBackx2
import Derived.Test.YtheoafenehckbaaQWp
import Derived.Test.YtheoafenehckbaaQSh
import Derived.Test.YtheoafenehckbaaQSp
import Derived.Test.YtheoafenehckbaaQSw
import Derived.LoopN
import Derived.RegionTactic
namespace Go.Proofs.Ytheoafenehckbaa.Rp
open GUndescBack
open Tk Cl Fl Pt
open Go.RowKit YtheoafenehckbaaW.PrintWords YtheoafenehckbaaW.PrintLast YtheoafenehckbaaW.PrintMore
attribute [local go_sem] max2_int min2_int max_two min_two max_three min_three max_four min_four
set_option linter.unusedVariables false
set_option linter.unusedSimpArgs false
def glossaryref01_kind.f (a0:Int):Option (Bool):=if a0=0 then (some true) else (if a0=1 then (some true) else (if a0=2 then (some true) else (some (a0==5))))
def glossaryref01_Varint.l0:Nat→Int→List Int→Option (List Int)
 | 0,_,_=>none
 | k+1,x0,x3=>if x0 ≥ 128 then (if x3.length < 140737488355328 then (glossaryref01_Varint.l0 k (IntKind.u64.wrap (Int.tdiv x0 128)) (x3++[((Int.tmod x0 128)+128) % 256])) else (none)) else (if x3.length < 140737488355328 then (some (x3++[(x0) % 256])) else (none))
def glossaryref01_Varint.f (k:Nat) (a0:Int):Option (List Int):=glossaryref01_Varint.l0 k a0 ([]:List Int)
set_option maxHeartbeats 8000000 in
set_option maxRecDepth 100000 in
theorem glossaryref01_Varint.calls (k:Nat) (a0:Int) (r:List Int) (w:World) (h:glossaryref01_Varint.f k a0=some r) :
 Calls Try.prog 74 #[.int .u64 a0] w fun e w'=>∃ v0_:Value,e = .returned (v0_)∧Kd.R (Kd.int .u8) 5 w' w.heap.size (fun _=>True) v0_ r∧Below w.heap.size w w':=by
 have HB:=mk0 (Below.refl w.heap.size w)
 have H:(glossaryref01_Varint.l0 k a0 ([]:List Int))=some r:=h
 clear h
 have H':=mk0 H
 clear H
 go_enter Try.func74,Try.ntmps74
 go_wp2
 go_loopg [0,3] k (fun kq v0 v3 w'=>∃ (x0_1:Int) (x3_1:List Int),v0 = .int .u64 x0_1∧Aside0 (glossaryref01_Varint.l0 kq x0_1 x3_1=some r)∧Aside0 (kq≤k)∧Aside0 (Kd.R (Kd.int .u8) 5 w' w.heap.size (fun _=>True) v3 x3_1)∧Aside0 (Below w.heap.size w w'))
 case atStart=>exact ⟨(a0),(([]:List Int)),(by first|rfl|(simp;done)|(simp [*];done)),H',⟨Nat.le_refl _⟩,⟨by first|exact Kd.R_nil _ _ _ _ _|exact Kd.N_nil _ _ _ _ _|exact Kd.V_nil _ _ _ _ _|exact Kd.Q_nil _ _ _ _ _|exact Kd.S_nil _ _ _ _ _⟩,⟨by repeat (first|(with_reducible first|exact HB.out|apply jj6|apply jj4|apply jj2)|exact HB.out)⟩⟩
 case round=>
  clear H'
  obtain ⟨x0_1,x3_1,rfl,HA,HK1,HO_3,HB⟩:=hrel
  cases gk with
  | zero=>exact absurd HA.out (by simp [glossaryref01_Varint.l0])
  | succ k1=>
   have H:=HA.out
   clear HA
   simp only [glossaryref01_Varint.l0] at H
   by_cases c2:x0_1 ≥ 128
   · as_aux_lemma=>
      rw [if_pos c2] at H
      have c2b0:decide (128≤x0_1)=true:=decide_eq_true c2
      clear c2
      by_cases c3:x3_1.length < 140737488355328
      · as_aux_lemma=>
         rw [if_pos c3] at H
         have LMc3:=mk0 c3
         clear c3
         obtain ⟨y228,hy228⟩:∃ y_:List Int,y_=(x3_1++[((Int.tmod x0_1 128)+128) % 256]):=⟨_,rfl⟩
         replace H:(glossaryref01_Varint.l0 k1 (IntKind.u64.wrap (Int.tdiv x0_1 128)) y228)=some r:=by first|(rw [hy228];with_reducible exact H)|(have H2_:=(Option.bind_some _ _).symm.trans H;rw [hy228];with_reducible exact H2_)|(have H2_:=(Option.bind_some _ _).symm.trans H;with_reducible exact H2_)|with_reducible exact H|(rw [hy228];exact H)|exact H
         have Ny228:=mk0 hy228
         clear hy228
         as_aux_lemma=>
          have H':=mk0 H
          clear H
          go_wp2_with (first|((with_reducible refine jk9 (b:=.append) (xs:=#[.tmp 6,.tmp 11]) rfl ?_);at_builtin;refine Kd.R_append (Kd.int .u8) (w0:=w) w.heap.size rfl (.tmp 6) (.tmp 11) 28 5 (.int .u8 0) 1 rfl Try.underlying28 GUndescBack.info5 rfl (by decide) (by omega) u3 x3_1 (((Int.tmod x0_1 128)+128) % 256) [.int .u8 (((Int.tmod x0_1 128)+128) % 256)] (fun _=>True) (fun _=>False) rfl rfl ?aP (fun _ hk=>hk.elim) ?aF ?aO ?aB ?aS ?aL ?_;(case aP=>exact rfl);(case aB=>exact (by repeat (first|(with_reducible first|exact HB.out|apply jj6|apply jj4|apply jj2)|exact HB.out)));(case aF=>exact (fun _ _=>trivial));(case aO=>exact (by (with_reducible repeat (first|apply Kd.R_alloc|apply Kd.R_drewN|apply Kd.R_drew));exact HO_3.out));(case aS=>exact (below_size (by repeat (first|(with_reducible first|exact HB.out|apply jj6|apply jj4|apply jj2)|exact HB.out))));(case aL=>have:=LMc3.out;omega);intro v229 w4 ho hb hg hat;rw [← Ny228.out] at ho;have n0_:=mk0 (hb);have n1_:=mk0 (ho);clear HB;clear HO_3;have HB:=n0_;have HO230:=n1_;clear n0_ n1_;clear ho hb hg hat))
          go_roundg k1
          case measure=>have:=HK1.out;omega
          case rel=>exact ⟨(IntKind.u64.wrap (Int.tdiv x0_1 128)),(y228),(by first|rfl|(simp;done)|(simp [*];done)),H',⟨by have:=HK1.out;omega⟩,⟨by (with_reducible repeat (first|apply Kd.R_alloc|apply Kd.R_drewN|apply Kd.R_drew));exact HO230.out⟩,⟨by repeat (first|(with_reducible first|exact HB.out|apply jj6|apply jj4|apply jj2)|exact HB.out)⟩⟩
      · rw [if_neg c3] at H
        exact absurd H (by simp)
   · as_aux_lemma=>
      rw [if_neg c2] at H
      have c2b0:decide (128≤x0_1)=false:=decide_eq_false c2
      clear c2
      by_cases c5:x3_1.length < 140737488355328
      · as_aux_lemma=>
         rw [if_pos c5] at H
         have LMc5:=mk0 c5
         clear c5
         obtain ⟨y231,hy231⟩:∃ y_:List Int,y_=(x3_1++[(x0_1) % 256]):=⟨_,rfl⟩
         replace H:(some y231)=some r:=by first|(rw [hy231];with_reducible exact H)|(have H2_:=(Option.bind_some _ _).symm.trans H;rw [hy231];with_reducible exact H2_)|(have H2_:=(Option.bind_some _ _).symm.trans H;with_reducible exact H2_)|with_reducible exact H|(rw [hy231];exact H)|exact H
         have Ny231:=mk0 hy231
         clear hy231
         as_aux_lemma=>
          obtain rfl:=Option.some.inj H
          go_wp2_with (first|((with_reducible refine jk9 (b:=.append) (xs:=#[.tmp 15,.tmp 18]) rfl ?_);at_builtin;refine Kd.R_append (Kd.int .u8) (w0:=w) w.heap.size rfl (.tmp 15) (.tmp 18) 28 5 (.int .u8 0) 1 rfl Try.underlying28 GUndescBack.info5 rfl (by decide) (by omega) u3 x3_1 ((x0_1) % 256) [.int .u8 ((x0_1) % 256)] (fun _=>True) (fun _=>False) rfl rfl ?aP (fun _ hk=>hk.elim) ?aF ?aO ?aB ?aS ?aL ?_;(case aP=>exact rfl);(case aB=>exact (by repeat (first|(with_reducible first|exact HB.out|apply jj6|apply jj4|apply jj2)|exact HB.out)));(case aF=>exact (fun _ _=>trivial));(case aO=>exact (by (with_reducible repeat (first|apply Kd.R_alloc|apply Kd.R_drewN|apply Kd.R_drew));exact HO_3.out));(case aS=>exact (below_size (by repeat (first|(with_reducible first|exact HB.out|apply jj6|apply jj4|apply jj2)|exact HB.out))));(case aL=>have:=LMc5.out;omega);intro v232 w6 ho hb hg hat;rw [← Ny231.out] at ho;have n0_:=mk0 (hb);have n1_:=mk0 (ho);clear HB;clear HO_3;have HB:=n0_;have HO233:=n1_;clear n0_ n1_;clear ho hb hg hat))
          go_ret
          exact ⟨_,by first|rfl|(simp [errW_none,errW_some] <;> rfl)|(simp [*,errW_none,errW_some] <;> rfl),by (with_reducible repeat (first|apply Kd.R_alloc|apply Kd.R_drewN|apply Kd.R_drew));exact HO233.out,by repeat (first|(with_reducible first|exact HB.out|apply jj6|apply jj4|apply jj2)|exact HB.out)⟩
      · rw [if_neg c5] at H
        exact absurd H (by simp)
def glossaryref01_Fixed.l0:Nat→Int→Int→List Int→Int→Option (List Int)
 | 0,_,_,_,_=>none
 | k+1,x0,x1,x5,x6=>if x6 < x1 then (if x6 < 8 then (if 0≤(IntKind.u64.wrap (wrap64 (8*x6))) then (if x5.length < 140737488355328 then (glossaryref01_Fixed.l0 k x0 x1 (x5++[(shr .u64 x0 (IntKind.u64.wrap (wrap64 (8*x6)))) % 256]) (wrap64 (x6+1))) else (none)) else (none)) else (some x5)) else (some x5)
def glossaryref01_Fixed.f (k:Nat) (a0:Int) (a1:Int):Option (List Int):=glossaryref01_Fixed.l0 k a0 a1 ([]:List Int) 0
def glossaryref01_Put.j0:Nat→Bool→Int→Int→Int→List Int→Option (List Int × Int)
 | 0,_,_,_,_,_=>none
 | k+1,x18,x238000,x238001,x238002,x238003=>if x18=true then (some (([]:List Int),20)) else ((glossaryref01_Varint.f k (IntKind.u64.wrap (wrap64 ((wrap64 (8*x238000))+x238001)))).bind fun t239=>(if x238001=0 then ((glossaryref01_Varint.f k x238002).bind fun t242=>(if t239.length+t242.length < 140737488355328 then (some ((t239++t242),0)) else (none))) else (if x238001=1 then ((glossaryref01_Fixed.f k x238002 8).bind fun t248=>(if t239.length+t248.length < 140737488355328 then (some ((t239++t248),0)) else (none))) else (if x238001=5 then ((glossaryref01_Fixed.f k x238002 4).bind fun t254=>(if t239.length+t254.length < 140737488355328 then (some ((t239++t254),0)) else (none))) else (if x238001=2 then ((glossaryref01_Varint.f k (IntKind.u64.wrap ((x238003.length:Int)))).bind fun t260=>(if t239.length+t260.length < 140737488355328 then ((some (t239++t260:List Int)).bind fun y263=>(if y263.length+x238003.length < 140737488355328 then (some ((y263++x238003),0)) else (none))) else (none))) else (some (t239,0)))))))
def glossaryref01_Put.f (k:Nat) (a0_0:Int) (a0_1:Int) (a0_2:Int) (l0_3:List Int):Option (List Int × Int):=if a0_0 < 1 then (glossaryref01_Put.j0 k true a0_0 a0_1 a0_2 l0_3) else (if a0_0 > 536870911 then (glossaryref01_Put.j0 k true a0_0 a0_1 a0_2 l0_3) else ((glossaryref01_kind.f a0_1).bind fun t238=>(glossaryref01_Put.j0 k (!t238) a0_0 a0_1 a0_2 l0_3)))
def glossaryref01_Put.T12:Bool × List (List Nat × List Nat):=(true,[([],[]),([],[]),([1],[1]),([2],[2]),([3],[3]),([4],[4]),([0,5,5],[0,5]),([],[]),([7],[7]),([6,8,6],[6,8]),([9,9,0,1,2,3,4,5,6,7,8,9],[0,9])])
def glossaryref01_Put.B12:List Nat:=[0,0,2,6,14,30,63,0,128,511,1023]
theorem glossaryref01_Put.tab12:rtab .any (opsOf Try.f50 12)=glossaryref01_Put.T12:=by kernel_rfl
theorem glossaryref01_Put.bits12:waitsOk glossaryref01_Put.T12.2 glossaryref01_Put.B12=true:=by kernel_rfl
end Go.Proofs.Ytheoafenehckbaa.Rp
namespace Go.Proofs.Ytheoafenehckbaa.Rq
open Go.RowKit GUndescBack Rp YtheoafenehckbaaW.PrintWords YtheoafenehckbaaW.PrintLast YtheoafenehckbaaW.PrintMore Pt Vb Fx Wr Wp
theorem rvarint_l0 (d:Nat):∀ (k:Nat) (x:Int) (acc:List Int),0≤x→x < 18446744073709551616→(vb x.toNat).length≤d+1→d < k→acc.length+d < 140737488355328→
 glossaryref01_Varint.l0 k x acc=some (acc++vb x.toNat):=by
 induction d with
 | zero=>
  intro k x acc h0 h1 hl hk ha
  obtain ⟨k,rfl⟩:∃ m,k=m+1:=⟨k - 1,by omega⟩
  have hx:x < 128:=by
   rcases Int.lt_or_le x 128 with h|h
   · exact h
   · rw [vb_large (by omega)] at hl
     have:=vb_pos (x.toNat / 128)
     simp only [List.length_cons] at hl
     omega
  simp only [glossaryref01_Varint.l0]
  rw [if_neg (by omega),if_pos (by omega),vb_small (by omega)]
  congr 3
  omega
 | succ d ih=>
  intro k x acc h0 h1 hl hk ha
  obtain ⟨k,rfl⟩:∃ m,k=m+1:=⟨k - 1,by omega⟩
  simp only [glossaryref01_Varint.l0]
  rcases Int.lt_or_le x 128 with hx|hx
  · rw [if_neg (by omega),if_pos (by omega),vb_small (by omega)]
    congr 3
    omega
  · rw [if_pos (by omega),if_pos (by omega)]
    have hv:=vb_large (n:=x.toNat) (by omega)
    have e1:IntKind.u64.wrap (Int.tdiv x 128)=x / 128:=by
     rw [Int.tdiv_eq_ediv_of_nonneg h0]
     simp only [IntKind.wrap,IntKind.bits,IntKind.signed,Bool.false_and,Bool.false_eq_true,if_false]
     exact Int.emod_eq_of_lt (by omega) (by omega)
    have e2:(Int.tmod x 128+128) % 256=((x.toNat % 128+128:Nat):Int):=by
     rw [Int.tmod_eq_emod_of_nonneg h0]
     omega
    have e:(x / 128).toNat=x.toNat / 128:=by omega
    rw [e1,e2,ih k (x / 128) _ (by omega) (by omega) (by rw [hv] at hl;rw [e];simpa using hl) (by omega) (by simp only [List.length_append,List.length_cons,List.length_nil];omega),e,hv]
    simp
theorem rvarint_f (k:Nat) (x:Int) (h0:0≤x) (h1:x < 18446744073709551616) (hk:10≤k):glossaryref01_Varint.f k x=some (vb x.toNat):=by
 have:=vb_ten x.toNat (by omega)
 have h:=rvarint_l0 9 k x [] h0 h1 (by omega) (by omega) (by simp)
 simpa [glossaryref01_Varint.f] using h
end Go.Proofs.Ytheoafenehckbaa.Rq
set_option maxHeartbeats 8000000
set_option maxRecDepth 100000
namespace Go.Proofs.Ytheoafenehckbaa.R1
open Rp Rq Go.RowKit GUndescBack YtheoafenehckbaaW.PrintWords YtheoafenehckbaaW.PrintLast YtheoafenehckbaaW.PrintMore Vb Wr Wp Rk Sp
set_option linter.unusedVariables false
set_option linter.unusedSimpArgs false
theorem rkind0 (w:World):Calls Try.prog 73 #[.int .i64 0] w fun e w'=>w'=w∧e = .returned (.bool true):=by
 go_enter Try.func73,Try.ntmps73
 go_wp2
 go_ret
 exact ⟨rfl,rfl⟩
theorem rkind2 (w:World):Calls Try.prog 73 #[.int .i64 2] w fun e w'=>w'=w∧e = .returned (.bool true):=by
 go_enter Try.func73,Try.ntmps73
 go_wp2
 go_ret
 exact ⟨rfl,rfl⟩
theorem rput0_c (num n:Int) (w:World) (hn:1≤num∧num≤536870911) :
 Calls Try.prog 50 #[.agg #[.int .i64 num,.int .i64 0,.int .u64 (IntKind.u64.wrap n),.slice none 0 0]] w fun e w'=>∃ v,e = .returned (.tuple #[v,.int .i64 0])∧Kd.R (Kd.int .u8) 5 w' w.heap.size (fun _=>True) v (fN num n)∧Below w.heap.size w w':=by
 have lt0:decide (num < 1)=false:=decide_eq_false (by omega)
 have gt0:decide (num > 536870911)=false:=decide_eq_false (by omega)
 have m0:wrap64 (8*num)=8*num:=by unfold wrap64;omega
 have m1:wrap64 (8*num+0)=8*num+0:=by unfold wrap64;omega
 have m2:IntKind.u64.wrap (8*num+0)=8*num+0:=by rw [wrap_u64];omega
 have m3:IntKind.u64.wrap (8*num)=8*num:=by rw [wrap_u64];omega
 have HN0:Aside0 (0≤8*num+0):=⟨by omega⟩
 have HN1:Aside0 (8*num+0 < 18446744073709551616):=⟨by omega⟩
 have hres:Aside0 (fN num n=vb (8*num+0).toNat++vb (IntKind.u64.wrap n).toNat):=⟨rfl⟩
 have a0:8*num+0=8*num:=by omega
 rw [a0] at HN0 HN1 hres m1 m2
 obtain ⟨x1,hx1⟩:∃ z,vb (8*num).toNat=z:=⟨_,rfl⟩
 obtain ⟨x2,hx2⟩:∃ z,vb (IntKind.u64.wrap n).toNat=z:=⟨_,rfl⟩
 obtain ⟨y,hy⟩:∃ z,IntKind.u64.wrap n=z:=⟨_,rfl⟩
 have u0:=u64_in n
 have HV1:Aside0 (glossaryref01_Varint.f 11 (8*num)=some x1):=⟨by rw [← hx1];exact rvarint_f 11 _ HN0.out HN1.out (by decide)⟩
 have HV2:Aside0 (glossaryref01_Varint.f 11 y=some x2):=⟨by rw [← hx2,← hy];exact rvarint_f 11 _ u0.1 u0.2 (by decide)⟩
 have HL:Aside0 (x1.length+x2.length≤140737488355328):=⟨by have h1:=vb_ten (8*num).toNat (by omega);have h2:=vb_ten (IntKind.u64.wrap n).toNat (by omega);rw [hx1] at h1;rw [hx2] at h2;omega⟩
 rw [hx1,hx2] at hres
 rw [hy]
 clear hx1 hx2 hy u0 hn a0
 go_enter Try.func50,Try.ntmps50
 go_wp2_with (first|((with_reducible refine jk0 (N:=1) rfl ?_);(try (refine gate_guard (by rfl) ?_;dsimp only));refine bzX 1 #[.int .i64 num,.int .i64 0,.int .u64 y,.slice none 0 0] 97 ?_;intro gb hgb w1 hbox hb1;have HB:=mk0 hb1;have BK:=mk0 hbox;clear hgb hbox hb1;obtain ⟨s0_,s1_,s2_,s3_⟩:=cz4 BK.out)|(go_at_call 73;refine (rkind0 _).mono ?_;rintro e w1 ⟨hw_,he⟩;subst hw_;subst he)|(go_at_call 74;(with_reducible refine (glossaryref01_Varint.calls 11 (8*num) x1 _ HV1.out).mono ?_);rintro e wq ⟨v_,rfl,ho,hb⟩;obtain ⟨A1,c1,ex_⟩:=Kd.jk4 ho;subst ex_;have n0_:=mk0 (jj1 HB.out HB.out.size hb);have n1_:=mk0 (jj3 BK.out hb);have HR1:=mk0 (Kd.R_lower ho HB.out.size);clear HB BK;have HB:=n0_;have BK:=n1_;clear n0_ n1_;clear ho hb s0_ s1_ s2_ s3_;obtain ⟨s0_,s1_,s2_,s3_⟩:=cz4 BK.out)|(go_at_call 74;(with_reducible refine (glossaryref01_Varint.calls 11 (y) x2 _ HV2.out).mono ?_);rintro e wq ⟨v_,rfl,ho,hb⟩;obtain ⟨A2,c2,ex_⟩:=Kd.jk4 ho;subst ex_;have n0_:=mk0 (jj1 HB.out HB.out.size hb);have n1_:=mk0 (jj3 BK.out hb);have HR2:=mk0 (Kd.jk8 HR1.out hb);have HC2:=mk0 (Kd.jj7 ho).2.2;clear HB BK;have HB:=n0_;have BK:=n1_;clear n0_ n1_;clear ho hb)|((with_reducible refine jk9 (b:=.append) (xs:=#[.tmp 31,.tmp 34]) rfl ?_);(try (refine gate_guard (by rfl) ?_;dsimp only));at_builtin;refine Kd.R_append_rows (Kd.int .u8) (w0:=w) w.heap.size (by rfl) (.tmp 31) (.tmp 34) 28 5 (.int .u8 0) 1 rfl Try.underlying28 GUndescBack.info5 rfl (by decide) (by omega) _ (x1) (x2) _ _ _ (fun _=>True) (fun _=>False) rfl rfl HR2.out HC2.out (fun _ _ h=>h) (fun _ h=>h.elim) (fun _ _=>trivial) HB.out HB.out.size (by have h_:=HL.out;omega) ?_;intro v2 w2 ho2 hb2 hg2 hat2;have HBn:=mk0 hb2;obtain ⟨A9,c9,ex_⟩:=Kd.jk4 ho2;subst ex_;rw [List.length_append] at ho2;have HOn:=mk0 ho2;clear ho2 hb2 hg2 hat2))
 refine bodyPost_ret (results_tmp2 rfl _ _ _) rfl ?_
 exact ⟨_,rfl,by rw [hres.out];exact HOn.out,HBn.out⟩
def rput_t.T12:Bool × List (List Nat × List Nat):=(true,[([],[]),([],[]),([1],[1]),([2],[2]),([3],[3]),([4],[4]),([0,5,5],[0,5]),([],[]),([7],[7]),([6,8,6],[6,8]),([9,9,0,1,2,3,4,5,6,7,8,9],[0,9])])
def rput_t.B12:List Nat:=[0,0,2,6,14,30,63,0,128,511,1023]
theorem rput_t.tab12:rtab .any (opsOf Try.f50 12)=rput_t.T12:=by kernel_rfl
theorem rput_t.bits12:waitsOk rput_t.T12.2 rput_t.B12=true:=by kernel_rfl
theorem rput2_c (num:Int) (b:List Int) (A:Option Addr) (c:Nat) (w:World) (hn:1≤num∧num≤536870911) (hb0:b.length≤1099511627776) (hC:Kd.C (Kd.int .u8) w A b.length b) (hc:b.length≤c) :
 Calls Try.prog 50 #[.agg #[.int .i64 num,.int .i64 2,.int .u64 0,.slice A b.length c]] w fun e w'=>∃ v,e = .returned (.tuple #[v,.int .i64 0])∧Kd.R (Kd.int .u8) 5 w' w.heap.size (fun _=>True) v (fB num b)∧Below w.heap.size w w':=by
 have lt0:decide (num < 1)=false:=decide_eq_false (by omega)
 have gt0:decide (num > 536870911)=false:=decide_eq_false (by omega)
 have m0:wrap64 (8*num)=8*num:=by unfold wrap64;omega
 have m1:wrap64 (8*num+2)=8*num+2:=by unfold wrap64;omega
 have m2:IntKind.u64.wrap (8*num+2)=8*num+2:=by rw [wrap_u64];omega
 have m3:IntKind.u64.wrap (8*num)=8*num:=by rw [wrap_u64];omega
 have HN0:Aside0 (0≤8*num+2):=⟨by omega⟩
 have HN1:Aside0 (8*num+2 < 18446744073709551616):=⟨by omega⟩
 have m4:IntKind.u64.wrap ((b.length:Nat):Int)=((b.length:Nat):Int):=by rw [wrap_u64];omega
 have hres:Aside0 (fB num b=vb (8*num+2).toNat++(vb b.length++b)):=⟨rfl⟩
 obtain ⟨x1,hx1⟩:∃ z,vb (8*num+2).toNat=z:=⟨_,rfl⟩
 obtain ⟨x2,hx2⟩:∃ z,vb b.length=z:=⟨_,rfl⟩
 have HV1:Aside0 (glossaryref01_Varint.f 11 (8*num+2)=some x1):=⟨by rw [← hx1];exact rvarint_f 11 _ HN0.out HN1.out (by decide)⟩
 have HV2:Aside0 (glossaryref01_Varint.f 11 ((b.length:Nat):Int)=some x2):=⟨by rw [← hx2];exact rvarint_f 11 _ (by omega) (by omega) (by decide)⟩
 have HL:Aside0 (x1.length+x2.length≤140737488355328):=⟨by have h1:=vb_ten (8*num+2).toNat (by omega);have h2:=vb_ten b.length (by omega);rw [hx1] at h1;rw [hx2] at h2;omega⟩
 have HL2:Aside0 (x1.length+x2.length+b.length≤140737488355328):=⟨by have h1:=vb_ten (8*num+2).toNat (by omega);have h2:=vb_ten b.length (by omega);rw [hx1] at h1;rw [hx2] at h2;omega⟩
 rw [hx1,hx2] at hres
 have HC0:=mk0 hC
 clear hx1 hx2 hn hb0 hC
 go_enter Try.func50,Try.ntmps50
 go_wp2_with (first|((with_reducible refine jk0 (N:=1) rfl ?_);(try (refine gate_guard (by rfl) ?_;dsimp only));refine bzX 1 #[.int .i64 num,.int .i64 2,.int .u64 0,.slice A b.length c] 97 ?_;intro gb hgb w1 hbox hb1;have HB:=mk0 hb1;have BK:=mk0 hbox;clear hgb hbox hb1;obtain ⟨s0_,s1_,s2_,s3_⟩:=cz4 BK.out)|(go_at_call 73;refine (rkind2 _).mono ?_;rintro e w1 ⟨hw_,he⟩;subst hw_;subst he)|(go_at_call 74;(with_reducible refine (glossaryref01_Varint.calls 11 (8*num+2) x1 _ HV1.out).mono ?_);rintro e wq ⟨v_,rfl,ho,hb⟩;obtain ⟨A1,c1,ex_⟩:=Kd.jk4 ho;subst ex_;have n0_:=mk0 (jj1 HB.out HB.out.size hb);have n1_:=mk0 (jj3 BK.out hb);have HR1:=mk0 (Kd.R_lower ho HB.out.size);clear HB BK;have HB:=n0_;have BK:=n1_;clear n0_ n1_;clear ho hb s0_ s1_ s2_ s3_;obtain ⟨s0_,s1_,s2_,s3_⟩:=cz4 BK.out))
 clear s0_ s1_ s2_ s3_
 skip
 replace HB:=mk0 (jj2 HB.out)
 replace BK:=mk0 (jjq BK.out)
 replace HR1:=mk0 (Kd.R_drew HR1.out)
 refine start_ (n:=11) (S:=fun w'=>w'.cell? ⟨gb,3,none⟩=some (.slice A b.length c)) (ds:=[]) (bzs 11 0) (by kernel_rfl) rfl rfl (bzC BK 3) (fun hHeld=>?_)
 refine with_tabW rput_t.tab12 rput_t.bits12 (fun HT_ HW_=>?_)
 generalize World.drew _=wq at HB BK HR1 hHeld ⊢
 refine pzS 0 (some 52) (bzs 11 1) HT_ ?_
 refine pzS 1 (some 53) (bzs 11 3) HT_ ?_
 refine pzS 7 (some 59) (bzs 11 131) HT_ ?_
 refine tzS 2 (some 54) (bzs 11 135) HT_ HW_ hHeld ?_
 refine pzS 3 (some 55) (bzs 11 143) HT_ ?_
 refine pzS 4 (some 56) (bzs 11 159) HT_ ?_
 refine tzS 8 (some 60) (bzs 11 415) HT_ HW_ hHeld ?_
 refine one_ (i:=5) (N:=some 57) (bzs 11 447) rfl rfl (jk2 HT_.out (by kernel_rfl)) (by decide) (fun K hK=>?_)
 refine gzO Try.func74 #[.int .u64 ((b.length:Nat):Int)] ?_
 refine (glossaryref01_Varint.calls 11 ((b.length:Nat):Int) x2 _ HV2.out).mono ?_
 rintro e wq ⟨v_,rfl,ho,hb⟩
 refine ⟨_,rfl,?_⟩
 replace HB:=mk0 (jj1 HB.out HB.out.size hb)
 replace BK:=mk0 (jj3 BK.out hb)
 replace HR1:=mk0 (Kd.jk8 HR1.out hb)
 obtain ⟨R57,r57,ex_⟩:=Kd.jk4 ho
 subst ex_
 have HC57:=mk0 (Kd.jj7 ho).2.2
 have HL57:=mk0 (Kd.jj7 ho).2.1
 clear ho hb
 refine hK.out _ _ (bzC BK 3) (fun hHeld=>?_)
 clear hK K
 refine nzS (some 57) ?_
 refine one_ (i:=6) (N:=some 58) (bzs 11 511) rfl rfl (jk2 HT_.out (by kernel_rfl)) (by decide) (fun K hK=>?_)
 refine Kd.R_append_rows_step (Kd.int .u8) (w0:=w) w.heap.size (by rfl) (.tmp 52) (.tmp 57) 28 5 (.int .u8 0) 1 rfl Try.underlying28 GUndescBack.info5 rfl (by decide) (by omega) (.slice A1 x1.length c1) x1 (x2) _ _ _ (fun _=>True) (fun _=>False) rfl rfl HR1.out HC57.out (fun _ _ h=>h) (fun _ h=>h.elim) (fun _ _=>trivial) (HB.out) (HB.out).size (by have h_:=HL.out;omega) ?_
 intro v1 wq ho hb hg hat
 have HOn:=mk0 ho
 have HBn:=mk0 hb
 have n_:=mk0 (blk_grown BK.out hg (Kd.R_ne HR1.out BK.out (by decide)))
 clear BK
 have BK:=n_
 clear n_
 clear ho hb hg hat
 clear HB
 clear HR1
 clear HC57
 refine hK.out _ _ (bzC BK 3) (fun hHeld=>?_)
 clear hK K
 refine nzS (some 58) ?_
 refine one_ (i:=9) (N:=some 61) (bzs 11 1023) rfl rfl (jk2 HT_.out (by kernel_rfl)) (by decide) (fun K hK=>?_)
 have HO1:=HOn
 have HC9:=mk0 (Kd.jj0 HC0.out HBn.out)
 refine Kd.R_append_rows_step (Kd.int .u8) (w0:=w) w.heap.size (by rfl) (.tmp 58) (.tmp 60) 28 5 (.int .u8 0) 1 rfl Try.underlying28 GUndescBack.info5 rfl (by decide) (by omega) _ (x1++x2) (b) _ _ _ (fun _=>True) (fun _=>False) rfl rfl HO1.out HC9.out (fun _ _ h=>h) (fun _ h=>h.elim) (fun _ _=>trivial) (HBn.out) (HBn.out).size (by have h_:=HL2.out;rw [List.length_append];omega) ?_
 intro v1 wq ho hb hg hat
 have HOn:=mk0 ho
 have HBn:=mk0 hb
 have n_:=mk0 (blk_grown BK.out hg (Kd.R_ne HO1.out BK.out (by decide)))
 clear BK
 have BK:=n_
 clear n_
 clear ho hb hg hat
 refine hK.out _ _ (bzC BK 3) (fun hHeld=>?_)
 clear hK K
 refine nzS (some 61) ?_
 refine pzS 10 (some 4) (bzs 11 2047) HT_ ?_
 refine done_ (done_of HT_.out (by kernel_rfl)) ?_
 go_wp2
 refine bodyPost_ret (results_tmp2 rfl _ _ _) rfl ?_
 exact ⟨_,rfl,by rw [hres.out,← List.append_assoc];exact HOn.out,HBn.out⟩
end Go.Proofs.Ytheoafenehckbaa.R1
set_option maxHeartbeats 4000000
set_option maxRecDepth 100000
namespace Go.Proofs.Ytheoafenehckbaa.R1
open Go.RowKit GUndescBack Rp Rq YtheoafenehckbaaW.PrintWords YtheoafenehckbaaW.PrintLast YtheoafenehckbaaW.PrintMore Vb Wr Wp Rk Sp
set_option linter.unusedVariables false
set_option linter.unusedSimpArgs false
def Ret_ (bs:List Int) (w:World) (e:Ending) (w':World):Prop:=∃ v,e = .returned v∧Kd.R (Kd.int .u8) 5 w' w.heap.size (fun _=>True) v bs∧Below w.heap.size w w'
theorem cv_run (s:ByteArray):∀ w:World,Sem.run Try.prog (convert 9 28 (.string s)) w = .ok (.slice (some ⟨w.heap.size,0,none⟩) s.size (grownCap w s.size 0 5)) (Go.Lib.bytesWorld w 5 s):=fun w=>Go.Lib.run_convert_string_bytes w 9 28 5 s Try.underlying9 Try.underlying28 Try.underlying5
theorem cv_below (w:World) (s:ByteArray):Below w.heap.size w (Go.Lib.bytesWorld w 5 s):=⟨rfl,rfl,rfl,by rw [Go.Lib.bytesWorld_size];exact Nat.le_succ _,fun k hk=>Go.Lib.bytesWorld_at_old w 5 _ k hk⟩
theorem cv_cap (w:World) (s:ByteArray):(bytesOf s).length≤grownCap w s.size 0 5:=by rw [bytesOf_length];exact grownCap_ge w s.size 0 5
theorem cv_C (w:World) (s:ByteArray) (hs:s.size≤9223372036854775807):Kd.C (Kd.int .u8) (Go.Lib.bytesWorld w 5 s) (some ⟨w.heap.size,0,none⟩) (bytesOf s).length (bytesOf s):=by
 refine ⟨rfl,by rw [bytesOf_length];exact hs,fun _=>⟨_,rfl,fun j p hj=>?_⟩⟩
 have hjl:j < s.size:=by have:=(List.getElem?_eq_some_iff.1 hj).1;rw [bytesOf_length] at this;exact this
 have hp:p=((s.data.toList.getD j 0).toNat:Int):=by
  unfold bytesOf at hj
  rw [List.getElem?_map] at hj
  obtain ⟨b,hb,rfl⟩:=Option.map_eq_some_iff.1 hj
  rw [List.getD_eq_getElem?_getD,hb]
  rfl
 refine ⟨[.int .u8 p],rfl,rfl,fun i u hi=>?_⟩
 match i,hi with
 | 0,hi=>
  obtain rfl:Value.int .u8 p=u:=Option.some.inj hi
  rw [show (⟨w.heap.size,0,none⟩:Addr).add (j*(Kd.int .u8).sz+0)=⟨w.heap.size,j,none⟩ from by
   show (⟨w.heap.size,0,none⟩:Addr).add (j*1+0)=_
   unfold Addr.add
   split <;> simp_all,hp]
  exact Go.Lib.bytesWorld_cell w 5 s j hjl
 | i+1,hi=>exact absurd hi (by simp)
theorem part_c (num:Int) (b:List Int) (A:Option Addr) (c:Nat) (w:World) (hn:1≤num∧num≤536870911) (hb:b.length≤1099511627776) (hC:Kd.C (Kd.int .u8) w A b.length b) (hc:b.length≤c) :
 Calls Try.prog 51 #[.int .i64 num,.slice A b.length c] w fun e w'=>Ret_ (fB num b) w e w':=by
 have HN:=mk0 hn
 have HZ:=mk0 hb
 clear hn hb
 go_enter Try.func51,Try.ntmps51
 go_wp2_with (first|(go_at_call 50;refine (rput2_c num b A c _ HN.out HZ.out hC hc).mono ?_;rintro e w1 ⟨v,rfl,h1,h2⟩))
 go_ret
 exact ⟨_,rfl,h1,h2⟩
theorem number_c (num n:Int) (w:World) (hn:1≤num∧num≤536870911):Calls Try.prog 22 #[.int .i64 num,.int .i64 n] w fun e w'=>Ret_ (fN num n) w e w':=by
 have HN:=mk0 hn
 clear hn
 go_enter Try.func22,Try.ntmps22
 go_wp2_with (first|(go_at_call 50;refine (rput0_c num n _ HN.out).mono ?_;rintro e w1 ⟨v,rfl,h1,h2⟩))
 go_ret
 exact ⟨_,rfl,h1,h2⟩
theorem text_c (num:Int) (x:ByteArray) (w:World) (hn:1≤num∧num≤536870911) (hx:x.size≤1099511627776):Calls Try.prog 24 #[.int .i64 num,.string x] w fun e w'=>Ret_ (tS num x) w e w':=by
 by_cases h0:x.size=0
 · have ht:Aside0 (tS num x=[]):=⟨by unfold tS;rw [if_pos h0]⟩
   obtain rfl:x=⟨#[]⟩:=by cases x;congr;exact Array.eq_empty_of_size_eq_zero h0
   go_enter Try.func24,Try.ntmps24
   go_wp2
   go_ret
   exact ⟨_,rfl,by rw [ht.out];exact Kd.R_nil _ _ _ _ _,Below.refl _ _⟩
 · have ht:Aside0 (tS num x=fB num (bytesOf x)):=⟨by unfold tS;rw [if_neg h0]⟩
   have hcv:=cv_run x
   have hne:(x.toList==([]:List UInt8))=false:=by
    rw [Go.ByteArray.toList_eq]
    refine beq_eq_false_iff_ne.2 fun h=>h0 ?_
    have:=congrArg List.length h
    rwa [Array.length_toList] at this
   have hp:=fun w1=>part_c num (bytesOf x) (some ⟨w1.heap.size,0,none⟩) (grownCap w1 x.size 0 5) (Go.Lib.bytesWorld w1 5 x) hn (by rw [bytesOf_length];exact hx) (cv_C w1 x (by omega)) (cv_cap w1 x)
   simp only [bytesOf_length] at hp
   go_enter Try.func24,Try.ntmps24
   go_wp2_with (first|(go_at_call 51;(with_reducible refine (hp _).mono ?_);rintro e w2 ⟨v,rfl,h1,h2⟩))
   go_ret
   exact ⟨_,rfl,by rw [ht.out];exact Kd.R_lower h1 (cv_below w x).size,jj1 (cv_below w x) (cv_below w x).size h2⟩
theorem bytes_c (num:Int) (b:List Int) (A:Option Addr) (c:Nat) (w:World) (hn:1≤num∧num≤536870911) (hb:b.length≤1099511627776) (hu:Bytes b) (hC:Kd.C (Kd.int .u8) w A b.length b) :
 Calls Try.prog 30 #[.int .i64 num,.slice A b.length c] w fun e w'=>Ret_ (oB num b) w e w':=by
 have hcv:=Kd.C_string (P:=Try.prog) (c:=c) Try.underlying28 Try.underlying5 Try.underlying9 hC
 have ht:=mk0 (o_eq (num:=num) hu)
 have hp:=text_c num (strOfNums b) w hn (by rw [strOf_size hu];exact hb)
 clear hu
 go_enter Try.func30,Try.ntmps30
 go_wp2_with (first|(go_at_call 24;(with_reducible refine hp.mono ?_);rintro e w2 ⟨v,rfl,h1,h2⟩))
 go_ret
 exact ⟨_,rfl,by rw [← ht.out];exact h1,h2⟩
theorem some_c (num n:Int) (w:World) (hn:1≤num∧num≤536870911):Calls Try.prog 76 #[.int .i64 num,.int .i64 n] w fun e w'=>Ret_ (sN num n) w e w':=by
 have hp:=number_c num n w hn
 by_cases h0:n=0
 · have ht:Aside0 (sN num n=[]):=⟨by unfold sN;rw [if_pos h0]⟩
   have h1:(n==0)=true:=beq_iff_eq.mpr h0
   clear h0
   go_enter Try.func76,Try.ntmps76
   go_wp2
   go_ret
   exact ⟨_,rfl,by rw [ht.out];exact Kd.R_nil _ _ _ _ _,Below.refl _ _⟩
 · have ht:Aside0 (sN num n=fN num n):=⟨by unfold sN;rw [if_neg h0]⟩
   have h1:(n==0)=false:=beq_eq_false_iff_ne.mpr h0
   clear h0
   go_enter Try.func76,Try.ntmps76
   go_wp2_with (first|(go_at_call 22;(with_reducible refine hp.mono ?_);rintro e w2 ⟨v,rfl,h1,h2⟩))
   go_ret
   exact ⟨_,rfl,by rw [ht.out];exact h1,h2⟩
theorem truth_c (num:Int) (is:Bool) (w:World) (hn:1≤num∧num≤536870911):Calls Try.prog 53 #[.int .i64 num,.bool is] w fun e w'=>Ret_ (tB num is) w e w':=by
 have hp:=number_c num 1 w hn
 cases is with
 | false=>
  go_enter Try.func53,Try.ntmps53
  go_wp2
  go_ret
  exact ⟨_,rfl,Kd.R_nil _ _ _ _ _,Below.refl _ _⟩
 | true=>
  go_enter Try.func53,Try.ntmps53
  go_wp2_with (first|(go_at_call 22;(with_reducible refine hp.mono ?_);rintro e w2 ⟨v,rfl,h1,h2⟩))
  go_ret
  exact ⟨_,rfl,h1,h2⟩
theorem cat_step (l:List (List Int)) (i:Nat) (h:i < l.length):(l.take (i+1)).flatten=(l.take i).flatten++l.getD i []∧((l.take i).flatten).length+(l.getD i []).length≤l.flatten.length:=by
 have e:(l.take (i+1)).flatten=(l.take i).flatten++l.getD i []:=by
  rw [List.take_add_one,List.getElem?_eq_getElem h,List.flatten_append]
  simp [h]
 refine ⟨e,?_⟩
 have h1:=congrArg List.length e
 have h2:l.flatten=(l.take (i+1)).flatten++(l.drop (i+1)).flatten:=by rw [← List.flatten_append,List.take_append_drop]
 have h3:=congrArg List.length h2
 rw [List.length_append] at h1 h3
 omega
theorem all_c (l:List (List Int)) (A:Option Addr) (c:Nat) (w:World) (hC:Kd.C (Kd.slice 5 (Kd.int .u8)) w A l.length l) (hl:l.flatten.length < 140737488355328) (hll:l.length < 1000000) :
 Calls Try.prog 23 #[.slice A l.length c] w fun e w'=>Ret_ l.flatten w e w':=by
 have HC:=mk0 hC
 have HL:=mk0 hl
 have HB0:=mk0 (Below.refl w.heap.size w)
 clear hl
 go_enter Try.func23,Try.ntmps23
 go_wp2
 go_loopg [3,8] l.length (fun kq v3 v8 w'=>∃ i:Nat,v8 = .int .i64 (i:Int)∧Aside0 (i+kq=l.length)∧Aside0 (Kd.R (Kd.int .u8) 5 w' w.heap.size (fun _=>True) v3 (l.take i).flatten)∧Aside0 (Below w.heap.size w w'))
 case atStart=>exact ⟨0,rfl,⟨by omega⟩,⟨Kd.R_nil _ _ _ _ _⟩,⟨HB0.out⟩⟩
 case round=>
  obtain ⟨i,rfl,HI,HR,HB⟩:=hrel
  obtain ⟨Av,cv,ev⟩:=Kd.jk4 HR.out
  subst ev
  by_cases hlt:i < l.length
  · have hwp:wrap64 ((i:Int)+1)=((i+1:Nat):Int):=by unfold wrap64;omega
    have d0:decide ((i:Int) < (l.length:Int))=true:=decide_eq_true (by omega)
    have p0:(0≤(i:Int))=True:=eq_true (by omega)
    have q0:((i:Int) < (l.length:Int))=True:=eq_true (by omega)
    have HT:=mk0 (cat_step l i hlt)
    obtain ⟨x,hx⟩:∃ x,l.getD i []=x:=⟨_,rfl⟩
    rw [hx] at HT
    obtain ⟨ad,cc,ea,_,hKx,hcc⟩:=Kd.C_get (Kd.jj0 hC HB.out) [] (i:Int) (by omega) (by omega)
    rw [Int.toNat_natCast] at hKx hcc
    rw [hx] at hKx
    obtain ⟨Ax,cx,ecc,lx,gx⟩:=hKx
    subst ecc
    have e0:wr.cell? (ad.add i)=some (.slice Ax x.length cx):=by have:=hcc 0 _ rfl;rwa [show i*(Kd.slice 5 (Kd.int .u8)).sz+0=i from by show i*1+0=i;omega] at this
    have HX:=mk0 gx
    clear hx hcc
    subst ea
    cases gk with
    | zero=>exact absurd HI.out (by omega)
    | succ k1=>
     go_wp2_with (first|((with_reducible refine jk9 (b:=.append) (xs:=#[.tmp 12,.tmp 13]) rfl ?_);(try (refine gate_guard (by rfl) ?_;dsimp only));at_builtin;refine Kd.R_append_rows (Kd.int .u8) (w0:=w) w.heap.size rfl (.tmp 12) (.tmp 13) 28 5 (.int .u8 0) 1 rfl Try.underlying28 GUndescBack.info5 rfl (by decide) (by omega) (.slice Av (l.take i).flatten.length cv) (l.take i).flatten x _ _ _ (fun _=>True) (fun _=>False) rfl rfl ?aO ?aR (fun _ _ h=>h) (fun _ h=>h.elim) ?aF ?aB ?aS ?aL ?_;(case aR=>exact HX.out);(case aB=>exact HB.out);(case aF=>exact fun _ _=>trivial);(case aO=>exact HR.out);(case aS=>exact HB.out.size);(case aL=>have h1:=HT.out.2;have h2:=HL.out;omega);intro v1 w2 ho2 hb2 hg2 hat2))
     go_roundg k1
     case measure=>exact Nat.lt_succ_self k1
     case rel=>exact ⟨i+1,(by first|rfl|(rw [hwp])|(simp [hwp];done)),⟨by have:=HI.out;omega⟩,⟨by rw [HT.out.1];exact ho2⟩,⟨hb2⟩⟩
  · have d0:decide ((i:Int) < (l.length:Int))=false:=decide_eq_false (by omega)
    rw [List.take_of_length_le (by omega)] at HR
    have HR':=HR
    clear HR
    rw [List.take_of_length_le (by omega)]
    go_wp2
    go_ret
    exact ⟨_,rfl,HR'.out,HB.out⟩
end Go.Proofs.Ytheoafenehckbaa.R1
namespace Go.Proofs.Ytheoafenehckbaa.R1
open Go.RowKit GUndescBack YtheoafenehckbaaW.PrintWords YtheoafenehckbaaW.PrintLast YtheoafenehckbaaW.PrintMore Vb Wr Wp Rk Sp
set_option linter.unusedVariables false
set_option linter.unusedSimpArgs false
theorem fk_ {W:World} {A:Option Addr} {c:Nat} {xs:List Int} (h:Kd.C (Kd.int .u8) W A xs.length xs) (hc:xs.length≤c):Kd.FK (Kd.slice 5 (Kd.int .u8)) W (fun k_=>k_ < W.heap.size) xs [.slice A xs.length c]:=
 Kd.FK_slice_mk hc (fun W2 hW2=>Kd.Heap.C (Kd.heap_int .u8) (fun k_ hk_=>hW2 k_ hk_ hk_) h)
theorem num_step (i n:Nat) (h:i < n) (hn:n < 9223372036854775807):wrap64 ((i:Int)+1)=((i+1:Nat):Int):=by unfold wrap64;omega
theorem dec_lt {i n:Nat} (h:i < n):decide ((i:Int) < (n:Int))=true:=decide_eq_true (by omega)
theorem dec_ge {i n:Nat} (h:¬ i < n):decide ((i:Int) < (n:Int))=false:=decide_eq_false (by omega)
theorem flat_step {α:Type} (fs:α→List Int) (l:List α) (d:α) (i:Nat) (h:i < l.length):∃ x,x∈l∧l.getD i d=x∧(l.take (i+1)).flatMap fs=(l.take i).flatMap fs++fs x∧((l.take i).flatMap fs).length+(fs x).length≤(l.flatMap fs).length:=by
 refine ⟨l[i],List.getElem_mem h,by simp [h],?_,?_⟩
 · rw [List.take_add_one,List.getElem?_eq_getElem h,List.flatMap_append]
   simp
 · have hs:l.flatMap fs=(l.take i).flatMap fs++(fs l[i]++(l.drop (i+1)).flatMap fs):=by
    conv=>lhs;rw [← List.take_append_drop i l,List.drop_eq_getElem_cons h]
    rw [List.flatMap_append,List.flatMap_cons]
   have:=congrArg List.length hs
   rw [List.length_append,List.length_append] at this
   omega
theorem len_sum {α:Type} (g:α→Nat) (hg:∀ x,1≤g x):∀ l:List α,l.length≤(l.map g).sum
 | []=>Nat.zero_le _
 | a :: l=>by
  have h1:=hg a
  have h2:=len_sum g hg l
  rw [List.length_cons,List.map_cons,List.sum_cons]
  omega
set_option maxHeartbeats 8000000 in
set_option maxRecDepth 100000 in
theorem texts_c (l:List ByteArray) (hb:(l.map (fun y:ByteArray=>y.size+1)).sum≤4294967296) (num:Int) (hn:1≤num∧num≤536870911) (A0:Option Addr) (c0:Nat) (w:World) (hC:Kd.C Kd.string w A0 l.length l) :
 Calls Try.prog 25 #[.int .i64 num,.slice A0 l.length c0] w fun e w'=>Ret_ (l.flatMap fun y=>fB num (bytesOf y)) w e w':=by
 have hlen:=words_len num hn l hb
 have hll:=len_sum (fun y:ByteArray=>y.size+1) (fun y=>by omega) l
 have HL:Aside0 ((l.flatMap fun y=>fB num (bytesOf y)).length≤1099511627776):=⟨by omega⟩
 have HS:=mk0 hb
 have HN:=mk0 hn
 have HC0:=mk0 hC
 have HB0:=mk0 (Below.refl w.heap.size w)
 replace hll:l.length < 9223372036854775807:=by omega
 clear hlen hb hn
 go_enter Try.func25,Try.ntmps25
 go_wp2
 go_loopg [5,10] l.length (fun kq v5 v10 w'=>∃ i:Nat,v10 = .int .i64 (i:Int)∧Aside0 (i+kq=l.length)∧Aside0 (Kd.R (Kd.int .u8) 5 w' w.heap.size (fun _=>True) v5 ((l.take i).flatMap fun y=>fB num (bytesOf y)))∧Aside0 (Below w.heap.size w w'))
 case atStart=>exact ⟨0,rfl,⟨by omega⟩,⟨Kd.R_nil _ _ _ _ _⟩,⟨HB0.out⟩⟩
 case round=>
  obtain ⟨i,rfl,HI,HO,HB⟩:=hrel
  obtain ⟨acc,hacc⟩:∃ z,((l.take i).flatMap fun y=>fB num (bytesOf y))=z:=⟨_,rfl⟩
  rw [hacc] at HO
  obtain ⟨Av,cv,ev⟩:=Kd.jk4 HO.out
  subst ev
  by_cases hlt:i < l.length
  · have hwp:=num_step i l.length hlt hll
    have d0:=dec_lt hlt
    have p0:(0≤(i:Int))=True:=eq_true (Int.natCast_nonneg i)
    have q0:((i:Int) < (l.length:Int))=True:=eq_true (Int.ofNat_lt.2 hlt)
    obtain ⟨x,hmem,hxe,htake0,hlen0⟩:=flat_step (fun y=>fB num (bytesOf y)) l (⟨#[]⟩:ByteArray) i hlt
    rw [hacc] at htake0 hlen0
    have htake:=mk0 htake0
    have hlen:Aside0 (acc.length+(fB num (bytesOf x)).length < 140737488355328):=⟨by have:=HL.out;omega⟩
    clear htake0 hlen0 hacc
    have hCw:=Kd.jj0 HC0.out HB.out
    obtain ⟨ad,cc,ea,_,hKx,hcc⟩:=Kd.C_get hCw (⟨#[]⟩:ByteArray) (i:Int) (by omega) (by omega)
    rw [Int.toNat_natCast] at hKx hcc
    rw [hxe] at hKx
    obtain rfl:cc=[.string x]:=hKx
    have hcell:wr.cell? (ad.add i)=some (.string x):=by have:=hcc 0 _ rfl;rwa [show i*Kd.string.sz+0=i from by show i*1+0=i;omega] at this
    subst ea
    clear hcc hxe
    have hsz:x.size≤1099511627776:=by have:=sum_le (fun y:ByteArray=>y.size+1) l x hmem;have:=HS.out;omega
    have hcv:=cv_run x
    have hp:=fun (W1:World)=>part_c num (bytesOf x) (some ⟨W1.heap.size,0,none⟩) (grownCap W1 x.size 0 5) (Go.Lib.bytesWorld W1 5 x) HN.out (by rw [bytesOf_length];exact hsz) (cv_C W1 x (by omega)) (cv_cap W1 x)
    simp only [bytesOf_length] at hp
    have hcb:=mk0 (cv_below wr x)
    clear hsz
    cases gk with
    | zero=>exact absurd HI.out (fun h=>Nat.ne_of_lt hlt h)
    | succ k1=>
     go_wp2_with (first|(go_at_call 51;(with_reducible refine (hp _).mono ?_);rintro e w1 ⟨v,rfl,h1,h2⟩;obtain ⟨R_,r_,ex_⟩:=Kd.jk4 h1;subst ex_;have HCp:=mk0 (Kd.jj7 h1).2.2;have hbx:=jj1 hcb.out hcb.out.size h2;have HBc:=mk0 (jj1 HB.out HB.out.size hbx);have HOc:=mk0 (Kd.jk8 HO.out hbx);clear h1 h2 hbx)|((with_reducible refine jk9 (b:=.append) (xs:=#[.tmp 14,.tmp 18]) rfl ?_);(try (refine gate_guard (by rfl) ?_;dsimp only));at_builtin;refine Kd.R_append_rows (Kd.int .u8) (w0:=w) w.heap.size rfl (.tmp 14) (.tmp 18) 28 5 (.int .u8 0) 1 rfl Try.underlying28 GUndescBack.info5 rfl (by decide) (by omega) (.slice Av acc.length cv) acc (fB num (bytesOf x)) _ _ _ (fun _=>True) (fun _=>False) rfl rfl ?aO ?aR (fun _ _ h=>h) (fun _ h=>h.elim) ?aF ?aB ?aS ?aL ?_;(case aR=>exact HCp.out);(case aB=>exact HBc.out);(case aF=>exact fun _ _=>trivial);(case aO=>exact HOc.out);(case aS=>exact HBc.out.size);(case aL=>have h1:=hlen.out;omega);intro v1 w2 ho2 hb2 hg2 hat2;have HOn:=mk0 ho2;have HBn:=mk0 hb2;clear ho2 hb2 hg2 hat2))
     go_roundg k1
     case measure=>exact Nat.lt_succ_self k1
     case rel=>exact ⟨i+1,(by first|rfl|(rw [hwp])|(simp [hwp];done)),⟨(Nat.add_right_comm i 1 k1).trans HI.out⟩,⟨by rw [htake.out];exact HOn.out⟩,⟨HBn.out⟩⟩
  · have d0:=dec_ge hlt
    rw [List.take_of_length_le (Nat.le_of_not_lt hlt)] at hacc
    have HE:=mk0 hacc
    clear hacc
    go_wp2
    go_ret
    exact ⟨_,rfl,by rw [HE.out];exact HO.out,HB.out⟩
end Go.Proofs.Ytheoafenehckbaa.R1
