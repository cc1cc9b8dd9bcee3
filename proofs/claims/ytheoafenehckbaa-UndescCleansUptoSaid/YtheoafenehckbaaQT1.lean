/- Fields that stand alike, by the reference. -/
import Derived.Test.YtheoafenehckbaaQA4
import Derived.Test.YtheoafenehckbaaQSh
import Derived.Test.YtheoafenehckbaaQR3
import Derived.LoopN
import Derived.RegionTactic
namespace Go.Proofs.Ytheoafenehckbaa.R1
open Go.RowKit GUndescBack YtheoafenehckbaaW.PrintWords YtheoafenehckbaaW.PrintLast YtheoafenehckbaaW.PrintMore Vb Wr Wp Rk Sp
attribute [local go_sem] beq_self_eq_true bne_self_eq_false
set_option linter.unusedVariables false
set_option linter.unusedSimpArgs false
theorem store_skip {P:Program} {W:World} {a:Act} {o:Oper} {t:TypeId} {p:Tmp} {v:Operand} (ho:o.op = .store t (.tmp p) v) (g:Nat) (et:TypeId) (old cells:Array Value)
 (hp:a.eval (.tmp p) = .pointer (some ⟨g,0,none⟩)) (hv:a.eval v = .agg cells) (hb:W.heap[g]?=some (.cells old et (0,0))) (hi:(P.info? t).map (·.size)=some cells.size) (hs:old.size=cells.size) (h1:cells.toList.all (·.oneCell')=true) :
 (execOp a.eval o).run P W = .ok .skip (W.setRow g cells):=by
 have hr:=run_storeVar_row (P:=P) W g et t old cells hb hi hs (by rw [← Array.all_toList];exact h1)
 simp only [execOp,ho,hp,hv,Instr.storeAt]
 have hs2:Sem.run P (Instr.sureAddr (Value.pointer (some ⟨g,0,none⟩))) W = .ok ⟨g,0,none⟩ W:=rfl
 simp [Sem.run_bind,hs2,hr,Result.andThen]
theorem wrap_le (i n:Nat) (h:i < n) (hn:n≤9223372036854775807):wrap64 ((i:Int)+1)=((i+1:Nat):Int):=by unfold wrap64;omega
def sameFields_t.T6:Bool × List (List Nat × List Nat):=(true,[([],[]),([],[]),([0,1],[0,1]),([2],[2]),([],[]),([],[]),([4,5],[4,5]),([6],[6]),([],[]),([],[]),([8,3,0,1,2,3,8,9],[3,8]),([9,7,10,0,1,2,3,4,5,6,7,8,9,10],[7,9])])
def sameFields_t.B6:List Nat:=[0,0,3,7,0,0,48,112,0,0,783,2047]
theorem sameFields_t.tab6:rtab .any (opsOf Try.f36 6)=sameFields_t.T6:=by kernel_rfl
theorem sameFields_t.bits6:waitsOk sameFields_t.T6.2 sameFields_t.B6=true:=by kernel_rfl
set_option maxHeartbeats 8000000 in
set_option maxRecDepth 100000 in
theorem sameFields_t (a:List S88) (hga:∀ y∈a,good88 y) (hla:a.length≤9223372036854775807) (A0 B0:Option Addr) (ca cb:Nat) (w:World) (CA:Kd.C k88 w A0 a.length a) (CB:Kd.C k88 w B0 a.length a) :
 Calls Try.prog 36 #[.slice A0 a.length ca,.slice B0 a.length cb] w fun e w'=>e = .returned (.bool true)∧Below w.heap.size w w':=by
 have HB0:=mk0 (Below.refl w.heap.size w)
 have HA:=mk0 CA
 have HC:=mk0 CB
 have hn:((a.length:Int) != (a.length:Int))=false:=bne_self_eq_false _
 go_enter Try.func36,Try.ntmps36
 go_wp2
 go_loopg [15] a.length (fun kq v15 w'=>∃ i:Nat,v15 = .int .i64 (i:Int)∧Aside0 (i+kq=a.length)∧Aside0 (Below w.heap.size w w'))
 case atStart=>
  exact ⟨0,rfl,⟨by omega⟩,⟨HB0.out⟩⟩
 case round=>
  obtain ⟨i,rfl,HI,HB⟩:=hrel
  by_cases hlt:i < a.length
  · have d0:=dec_lt hlt
    have p0:(0≤(i:Int))=True:=eq_true (Int.natCast_nonneg i)
    have q0:((i:Int) < (a.length:Int))=True:=eq_true (Int.ofNat_lt.2 hlt)
    obtain ⟨x,hx⟩:∃ x,a.getD i z88=x:=⟨_,rfl⟩
    have gx_:=hga x (by rw [← hx];simp [hlt])
    have hwp:=mk0 (wrap_le i a.length hlt hla)
    have HLA:=mk0 hla
    clear hla
    have hCa:=Kd.jj0 HA.out HB.out
    have hCb:=Kd.jj0 HC.out HB.out
    have hxe:=hx
    obtain ⟨ad,cc,ea,_,hKx,hcc⟩:=Kd.C_get hCa z88 (i:Int) (Int.natCast_nonneg _) (Int.ofNat_lt.2 hlt)
    rw [Int.toNat_natCast] at hKx hcc
    rw [hxe] at hKx
    obtain ⟨A11,c11,A12,c12,ecc,lc11,gc11,lc12,gc12⟩:=k88_open hKx
    subst ecc
    obtain ⟨ex0,ex1,ex2,ex3,ex4,ex5,ex6,ex7,ex8,ex9,ex10,ex11,ex12⟩:=ez13 (m:=i*13) hcc
    subst ea
    clear hcc hKx hxe
    have hxe:=hx
    obtain ⟨bd,cc,ea,_,hKx,hcc⟩:=Kd.C_get hCb z88 (i:Int) (Int.natCast_nonneg _) (Int.ofNat_lt.2 hlt)
    rw [Int.toNat_natCast] at hKx hcc
    rw [hxe] at hKx
    obtain ⟨B11,d11,B12,d12,ecc,ld11,gd11,ld12,gd12⟩:=k88_open hKx
    subst ecc
    obtain ⟨ey0,ey1,ey2,ey3,ey4,ey5,ey6,ey7,ey8,ey9,ey10,ey11,ey12⟩:=ez13 (m:=i*13) hcc
    subst ea
    clear hcc hKx hxe
    clear CA CB
    clear hx gx_
    have HBr:=mk0 (Below.refl wr.heap.size wr)
    cases gk with
    | zero=>exact absurd HI.out (fun h=>Nat.ne_of_lt hlt h)
    | succ k1=>
     go_wp2
     have n_:=mk0 (jj2 HBr.out)
     clear HBr
     have HBr:=n_
     clear n_
     refine start_ (n:=12) (S:=fun w'=>w'.cell? (ad.add (i*13))=some (.string x.f0)∧w'.cell? ⟨(ad.add (i*13)).block,(ad.add (i*13)).off+1,none⟩=some (.int .i64 x.f1)∧w'.cell? ⟨(ad.add (i*13)).block,(ad.add (i*13)).off+2,none⟩=some (.int .i64 x.f2)∧w'.cell? ⟨(ad.add (i*13)).block,(ad.add (i*13)).off+3,none⟩=some (.int .i64 x.f3)∧w'.cell? ⟨(ad.add (i*13)).block,(ad.add (i*13)).off+4,none⟩=some (.string x.f4)∧w'.cell? ⟨(ad.add (i*13)).block,(ad.add (i*13)).off+5,none⟩=some (.string x.f5)∧w'.cell? ⟨(ad.add (i*13)).block,(ad.add (i*13)).off+6,none⟩=some (.string x.f6)∧w'.cell? ⟨(ad.add (i*13)).block,(ad.add (i*13)).off+7,none⟩=some (.bool x.f7)∧w'.cell? ⟨(ad.add (i*13)).block,(ad.add (i*13)).off+8,none⟩=some (.int .i64 x.f8)∧w'.cell? ⟨(ad.add (i*13)).block,(ad.add (i*13)).off+9,none⟩=some (.string x.f9)∧w'.cell? ⟨(ad.add (i*13)).block,(ad.add (i*13)).off+10,none⟩=some (.bool x.f10)∧w'.cell? ⟨(ad.add (i*13)).block,(ad.add (i*13)).off+11,none⟩=some (.slice A11 x.f11.length c11)∧w'.cell? ⟨(ad.add (i*13)).block,(ad.add (i*13)).off+12,none⟩=some (.slice A12 x.f12.length c12)∧w'.cell? (bd.add (i*13))=some (.string x.f0)∧w'.cell? ⟨(bd.add (i*13)).block,(bd.add (i*13)).off+1,none⟩=some (.int .i64 x.f1)∧w'.cell? ⟨(bd.add (i*13)).block,(bd.add (i*13)).off+2,none⟩=some (.int .i64 x.f2)∧w'.cell? ⟨(bd.add (i*13)).block,(bd.add (i*13)).off+3,none⟩=some (.int .i64 x.f3)∧w'.cell? ⟨(bd.add (i*13)).block,(bd.add (i*13)).off+4,none⟩=some (.string x.f4)∧w'.cell? ⟨(bd.add (i*13)).block,(bd.add (i*13)).off+5,none⟩=some (.string x.f5)∧w'.cell? ⟨(bd.add (i*13)).block,(bd.add (i*13)).off+6,none⟩=some (.string x.f6)∧w'.cell? ⟨(bd.add (i*13)).block,(bd.add (i*13)).off+7,none⟩=some (.bool x.f7)∧w'.cell? ⟨(bd.add (i*13)).block,(bd.add (i*13)).off+8,none⟩=some (.int .i64 x.f8)∧w'.cell? ⟨(bd.add (i*13)).block,(bd.add (i*13)).off+9,none⟩=some (.string x.f9)∧w'.cell? ⟨(bd.add (i*13)).block,(bd.add (i*13)).off+10,none⟩=some (.bool x.f10)∧w'.cell? ⟨(bd.add (i*13)).block,(bd.add (i*13)).off+11,none⟩=some (.slice B11 x.f11.length d11)∧w'.cell? ⟨(bd.add (i*13)).block,(bd.add (i*13)).off+12,none⟩=some (.slice B12 x.f12.length d12)) (ds:=[]) (bzs 12 0) (by kernel_rfl) rfl rfl ⟨pzB HBr ex0,pzB HBr ex1,pzB HBr ex2,pzB HBr ex3,pzB HBr ex4,pzB HBr ex5,pzB HBr ex6,pzB HBr ex7,pzB HBr ex8,pzB HBr ex9,pzB HBr ex10,pzB HBr ex11,pzB HBr ex12,pzB HBr ey0,pzB HBr ey1,pzB HBr ey2,pzB HBr ey3,pzB HBr ey4,pzB HBr ey5,pzB HBr ey6,pzB HBr ey7,pzB HBr ey8,pzB HBr ey9,pzB HBr ey10,pzB HBr ey11,pzB HBr ey12⟩ (fun hHeld=>?_)
     refine with_tabW sameFields_t.tab6 sameFields_t.bits6 (fun HT_ HW_=>?_)
     generalize wr.drew=wq at HBr hHeld ⊢
     refine pzS 0 (some 18) (bzs 12 1) HT_ ?_
     refine pzS 1 (some 19) (bzs 12 3) HT_ ?_
     refine pzS 4 (some 22) (bzs 12 19) HT_ ?_
     refine pzS 5 (some 23) (bzs 12 51) HT_ ?_
     refine tzS 2 (some 20) (bzs 12 55) HT_ HW_ hHeld ?_
     refine tzS 3 (some 21) (bzs 12 63) HT_ HW_ hHeld ?_
     refine tzS 6 (some 24) (bzs 12 127) HT_ HW_ hHeld ?_
     refine tzS 7 (some 25) (bzs 12 255) HT_ HW_ hHeld ?_
     refine join_ (σ:=Nat × Nat) 2 (bzs 12 1023) (fun s_=>[(6,.pointer (some ⟨s_.1,0,none⟩)),(7,.pointer (some ⟨s_.2,0,none⟩))]) (fun s_ w'=>w'.heap[s_.1]?=some (.cells #[.string (⟨#[]⟩:ByteArray),.int .i64 0,.int .i64 0,.int .i64 0,.string (⟨#[]⟩:ByteArray),.string (⟨#[]⟩:ByteArray),.string (⟨#[]⟩:ByteArray),.bool false,.int .i64 0,.string (⟨#[]⟩:ByteArray),.bool false,.slice none 0 0,.slice none 0 0] 88 (0,0))∧w'.heap[s_.2]?=some (.cells #[.string (⟨#[]⟩:ByteArray),.int .i64 0,.int .i64 0,.int .i64 0,.string (⟨#[]⟩:ByteArray),.string (⟨#[]⟩:ByteArray),.string (⟨#[]⟩:ByteArray),.bool false,.int .i64 0,.string (⟨#[]⟩:ByteArray),.bool false,.slice none 0 0,.slice none 0 0] 88 (0,0))∧s_.1≠s_.2∧wr.heap.size≤s_.1∧wr.heap.size≤s_.2∧Below wr.heap.size wr w') ?_ ?_
     rotate_left
     · intro hCont
       refine two_ (i:=8) (j:=9) (Ni:=some 6) (Nj:=some 7) (bzs 12 511) (bzs 12 767) rfl rfl rfl rfl (two_of HT_.out (by kernel_rfl)) (by decide) (by decide) (fun K hK=>?_) (fun K hK=>?_)
       · skip
         refine box_step ?hg (N:=6) ?hd (cs:=#[.string (⟨#[]⟩:ByteArray),.int .i64 0,.int .i64 0,.int .i64 0,.string (⟨#[]⟩:ByteArray),.string (⟨#[]⟩:ByteArray),.string (⟨#[]⟩:ByteArray),.bool false,.int .i64 0,.string (⟨#[]⟩:ByteArray),.bool false,.slice none 0 0,.slice none 0 0]) (t:=88) ?hr ?_;(case hd=>rfl);(case hg=>rfl);(case hr=>first|(go_simp;done)|(go_simp;rfl))
         intro gx hg wq hbox hb
         have HG1:=mk0 (show wr.heap.size≤gx from hg ▸ HBr.out.size)
         have n_:=mk0 (jj1 HBr.out HBr.out.size hb)
         clear HBr
         have HBr:=n_
         clear n_
         have B1:=mk0 hbox
         clear hg hbox hb
         refine hK.out _ _ ⟨pzB HBr ex0,pzB HBr ex1,pzB HBr ex2,pzB HBr ex3,pzB HBr ex4,pzB HBr ex5,pzB HBr ex6,pzB HBr ex7,pzB HBr ex8,pzB HBr ex9,pzB HBr ex10,pzB HBr ex11,pzB HBr ex12,pzB HBr ey0,pzB HBr ey1,pzB HBr ey2,pzB HBr ey3,pzB HBr ey4,pzB HBr ey5,pzB HBr ey6,pzB HBr ey7,pzB HBr ey8,pzB HBr ey9,pzB HBr ey10,pzB HBr ey11,pzB HBr ey12⟩ (fun hHeld=>?_)
         clear hK K
         refine nzS (some 6) ?_
         refine one_ (i:=9) (N:=some 7) (bzs 12 1023) rfl rfl (jk2 HT_.out (by kernel_rfl)) (by decide) (fun K hK=>?_)
         refine box_step ?hg (N:=7) ?hd (cs:=#[.string (⟨#[]⟩:ByteArray),.int .i64 0,.int .i64 0,.int .i64 0,.string (⟨#[]⟩:ByteArray),.string (⟨#[]⟩:ByteArray),.string (⟨#[]⟩:ByteArray),.bool false,.int .i64 0,.string (⟨#[]⟩:ByteArray),.bool false,.slice none 0 0,.slice none 0 0]) (t:=88) ?hr ?_;(case hd=>rfl);(case hg=>rfl);(case hr=>first|(go_simp;done)|(go_simp;rfl))
         intro gy hg wq hbox hb
         have HG2:=mk0 (show wr.heap.size≤gy from hg ▸ HBr.out.size)
         have HNE:=mk0 (show gx≠gy from hg ▸ Nat.ne_of_lt (blk_lt B1.out))
         have n_:=mk0 (jj1 HBr.out HBr.out.size hb)
         clear HBr
         have HBr:=n_
         clear n_
         have n_:=mk0 (jj3 B1.out hb)
         clear B1
         have B1:=n_
         have B2:=mk0 hbox
         clear hg hbox hb n_
         refine hK.out _ _ ⟨pzB HBr ex0,pzB HBr ex1,pzB HBr ex2,pzB HBr ex3,pzB HBr ex4,pzB HBr ex5,pzB HBr ex6,pzB HBr ex7,pzB HBr ex8,pzB HBr ex9,pzB HBr ex10,pzB HBr ex11,pzB HBr ex12,pzB HBr ey0,pzB HBr ey1,pzB HBr ey2,pzB HBr ey3,pzB HBr ey4,pzB HBr ey5,pzB HBr ey6,pzB HBr ey7,pzB HBr ey8,pzB HBr ey9,pzB HBr ey10,pzB HBr ey11,pzB HBr ey12⟩ (fun hHeld=>?_)
         clear hK K
         refine nzS (some 7) ?_
         exact norm_ (by simp only [putAll,Act.put,List.setIfInBounds_toArray,List.set_cons_zero,List.set_cons_succ]) (hCont (gx,gy) _ ⟨B1.out,B2.out,HNE.out,HG1.out,HG2.out,HBr.out⟩)
       · skip
         refine box_step ?hg (N:=7) ?hd (cs:=#[.string (⟨#[]⟩:ByteArray),.int .i64 0,.int .i64 0,.int .i64 0,.string (⟨#[]⟩:ByteArray),.string (⟨#[]⟩:ByteArray),.string (⟨#[]⟩:ByteArray),.bool false,.int .i64 0,.string (⟨#[]⟩:ByteArray),.bool false,.slice none 0 0,.slice none 0 0]) (t:=88) ?hr ?_;(case hd=>rfl);(case hg=>rfl);(case hr=>first|(go_simp;done)|(go_simp;rfl))
         intro gy hg wq hbox hb
         have HG1:=mk0 (show wr.heap.size≤gy from hg ▸ HBr.out.size)
         have n_:=mk0 (jj1 HBr.out HBr.out.size hb)
         clear HBr
         have HBr:=n_
         clear n_
         have B1:=mk0 hbox
         clear hg hbox hb
         refine hK.out _ _ ⟨pzB HBr ex0,pzB HBr ex1,pzB HBr ex2,pzB HBr ex3,pzB HBr ex4,pzB HBr ex5,pzB HBr ex6,pzB HBr ex7,pzB HBr ex8,pzB HBr ex9,pzB HBr ex10,pzB HBr ex11,pzB HBr ex12,pzB HBr ey0,pzB HBr ey1,pzB HBr ey2,pzB HBr ey3,pzB HBr ey4,pzB HBr ey5,pzB HBr ey6,pzB HBr ey7,pzB HBr ey8,pzB HBr ey9,pzB HBr ey10,pzB HBr ey11,pzB HBr ey12⟩ (fun hHeld=>?_)
         clear hK K
         refine nzS (some 7) ?_
         refine one_ (i:=8) (N:=some 6) (bzs 12 1023) rfl rfl (jk2 HT_.out (by kernel_rfl)) (by decide) (fun K hK=>?_)
         refine box_step ?hg (N:=6) ?hd (cs:=#[.string (⟨#[]⟩:ByteArray),.int .i64 0,.int .i64 0,.int .i64 0,.string (⟨#[]⟩:ByteArray),.string (⟨#[]⟩:ByteArray),.string (⟨#[]⟩:ByteArray),.bool false,.int .i64 0,.string (⟨#[]⟩:ByteArray),.bool false,.slice none 0 0,.slice none 0 0]) (t:=88) ?hr ?_;(case hd=>rfl);(case hg=>rfl);(case hr=>first|(go_simp;done)|(go_simp;rfl))
         intro gx hg wq hbox hb
         have HG2:=mk0 (show wr.heap.size≤gx from hg ▸ HBr.out.size)
         have HNE:=mk0 (show gy≠gx from hg ▸ Nat.ne_of_lt (blk_lt B1.out))
         have n_:=mk0 (jj1 HBr.out HBr.out.size hb)
         clear HBr
         have HBr:=n_
         clear n_
         have n_:=mk0 (jj3 B1.out hb)
         clear B1
         have B1:=n_
         have B2:=mk0 hbox
         clear hg hbox hb n_
         refine hK.out _ _ ⟨pzB HBr ex0,pzB HBr ex1,pzB HBr ex2,pzB HBr ex3,pzB HBr ex4,pzB HBr ex5,pzB HBr ex6,pzB HBr ex7,pzB HBr ex8,pzB HBr ex9,pzB HBr ex10,pzB HBr ex11,pzB HBr ex12,pzB HBr ey0,pzB HBr ey1,pzB HBr ey2,pzB HBr ey3,pzB HBr ey4,pzB HBr ey5,pzB HBr ey6,pzB HBr ey7,pzB HBr ey8,pzB HBr ey9,pzB HBr ey10,pzB HBr ey11,pzB HBr ey12⟩ (fun hHeld=>?_)
         clear hK K
         refine nzS (some 6) ?_
         exact norm_ (by simp only [putAll,Act.put,List.setIfInBounds_toArray,List.set_cons_zero,List.set_cons_succ]) (hCont (gx,gy) _ ⟨B2.out,B1.out,(HNE.out).symm,HG2.out,HG1.out,HBr.out⟩)
     clear HBr hHeld
     rintro ⟨gx,gy⟩ wq ⟨hBX_,hBY_,hne_,hGX_,hGY_,hB_⟩
     have BX:=mk0 hBX_
     have BY:=mk0 hBY_
     have HNE:=mk0 hne_
     have HGX:=mk0 hGX_
     have HGY:=mk0 hGY_
     have HBr:=mk0 hB_
     clear hBX_ hBY_ hne_ hGX_ hGY_ hB_
     refine norm_ (a':=?_) ?_ ?_
     rotate_left
     · simp only [putAll,Act.put,List.setIfInBounds_toArray,List.set_cons_zero,List.set_cons_succ]
       rfl
     refine one_ (i:=10) (N:=none) (bzs 12 2047) rfl rfl (jk2 HT_.out (by kernel_rfl)) (by decide) (fun K hK=>?_)
     refine skip_ (w1:=wq.setRow gx #[.string x.f0,.int .i64 x.f1,.int .i64 x.f2,.int .i64 x.f3,.string x.f4,.string x.f5,.string x.f6,.bool x.f7,.int .i64 x.f8,.string x.f9,.bool x.f10,.slice A11 x.f11.length c11,.slice A12 x.f12.length c12]) (by rfl) rfl (store_skip rfl gx 88 _ _ rfl rfl BX.out (by kernel_rfl) rfl rfl) ?_
     have n0_:=mk0 (setRow_heap wq gx _ #[.string x.f0,.int .i64 x.f1,.int .i64 x.f2,.int .i64 x.f3,.string x.f4,.string x.f5,.string x.f6,.bool x.f7,.int .i64 x.f8,.string x.f9,.bool x.f10,.slice A11 x.f11.length c11,.slice A12 x.f12.length c12] 88 (0,0) BX.out)
     have n1_:=mk0 ((setRow_other wq gx gy #[.string x.f0,.int .i64 x.f1,.int .i64 x.f2,.int .i64 x.f3,.string x.f4,.string x.f5,.string x.f6,.bool x.f7,.int .i64 x.f8,.string x.f9,.bool x.f10,.slice A11 x.f11.length c11,.slice A12 x.f12.length c12] HNE.out.symm).trans BY.out)
     have n2_:=mk0 (below_setRow HBr.out HGX.out #[.string x.f0,.int .i64 x.f1,.int .i64 x.f2,.int .i64 x.f3,.string x.f4,.string x.f5,.string x.f6,.bool x.f7,.int .i64 x.f8,.string x.f9,.bool x.f10,.slice A11 x.f11.length c11,.slice A12 x.f12.length c12])
     clear BX BY HBr
     generalize wq.setRow gx #[.string x.f0,.int .i64 x.f1,.int .i64 x.f2,.int .i64 x.f3,.string x.f4,.string x.f5,.string x.f6,.bool x.f7,.int .i64 x.f8,.string x.f9,.bool x.f10,.slice A11 x.f11.length c11,.slice A12 x.f12.length c12]=wq at n0_ n1_ n2_ ⊢
     have BX:=n0_
     have BY:=n1_
     have HBr:=n2_
     clear n0_ n1_ n2_
     refine hK.out _ _ ⟨pzB HBr ex0,pzB HBr ex1,pzB HBr ex2,pzB HBr ex3,pzB HBr ex4,pzB HBr ex5,pzB HBr ex6,pzB HBr ex7,pzB HBr ex8,pzB HBr ex9,pzB HBr ex10,pzB HBr ex11,pzB HBr ex12,pzB HBr ey0,pzB HBr ey1,pzB HBr ey2,pzB HBr ey3,pzB HBr ey4,pzB HBr ey5,pzB HBr ey6,pzB HBr ey7,pzB HBr ey8,pzB HBr ey9,pzB HBr ey10,pzB HBr ey11,pzB HBr ey12⟩ (fun hHeld=>?_)
     clear hK K
     refine one_ (i:=11) (N:=none) (bzs 12 4095) rfl rfl (jk2 HT_.out (by kernel_rfl)) (by decide) (fun K hK=>?_)
     refine skip_ (w1:=wq.setRow gy #[.string x.f0,.int .i64 x.f1,.int .i64 x.f2,.int .i64 x.f3,.string x.f4,.string x.f5,.string x.f6,.bool x.f7,.int .i64 x.f8,.string x.f9,.bool x.f10,.slice B11 x.f11.length d11,.slice B12 x.f12.length d12]) (by rfl) rfl (store_skip rfl gy 88 _ _ rfl rfl BY.out (by kernel_rfl) rfl rfl) ?_
     have n0_:=mk0 (setRow_heap wq gy _ #[.string x.f0,.int .i64 x.f1,.int .i64 x.f2,.int .i64 x.f3,.string x.f4,.string x.f5,.string x.f6,.bool x.f7,.int .i64 x.f8,.string x.f9,.bool x.f10,.slice B11 x.f11.length d11,.slice B12 x.f12.length d12] 88 (0,0) BY.out)
     have n1_:=mk0 ((setRow_other wq gy gx #[.string x.f0,.int .i64 x.f1,.int .i64 x.f2,.int .i64 x.f3,.string x.f4,.string x.f5,.string x.f6,.bool x.f7,.int .i64 x.f8,.string x.f9,.bool x.f10,.slice B11 x.f11.length d11,.slice B12 x.f12.length d12] HNE.out).trans BX.out)
     have n2_:=mk0 (below_setRow HBr.out HGY.out #[.string x.f0,.int .i64 x.f1,.int .i64 x.f2,.int .i64 x.f3,.string x.f4,.string x.f5,.string x.f6,.bool x.f7,.int .i64 x.f8,.string x.f9,.bool x.f10,.slice B11 x.f11.length d11,.slice B12 x.f12.length d12])
     clear BY BX HBr
     generalize wq.setRow gy #[.string x.f0,.int .i64 x.f1,.int .i64 x.f2,.int .i64 x.f3,.string x.f4,.string x.f5,.string x.f6,.bool x.f7,.int .i64 x.f8,.string x.f9,.bool x.f10,.slice B11 x.f11.length d11,.slice B12 x.f12.length d12]=wq at n0_ n1_ n2_ ⊢
     have BY:=n0_
     have BX:=n1_
     have HBr:=n2_
     clear n0_ n1_ n2_
     refine hK.out _ _ ⟨pzB HBr ex0,pzB HBr ex1,pzB HBr ex2,pzB HBr ex3,pzB HBr ex4,pzB HBr ex5,pzB HBr ex6,pzB HBr ex7,pzB HBr ex8,pzB HBr ex9,pzB HBr ex10,pzB HBr ex11,pzB HBr ex12,pzB HBr ey0,pzB HBr ey1,pzB HBr ey2,pzB HBr ey3,pzB HBr ey4,pzB HBr ey5,pzB HBr ey6,pzB HBr ey7,pzB HBr ey8,pzB HBr ey9,pzB HBr ey10,pzB HBr ey11,pzB HBr ey12⟩ (fun hHeld=>?_)
     clear hK K
     refine done_ (done_of HT_.out (by kernel_rfl)) ?_
     obtain ⟨p0_,p1_,p2_,p3_,p4_,p5_,p6_,p7_,p8_,p9_,p10_,p11_,p12_⟩:=cz13 BX.out
     obtain ⟨q0_,q1_,q2_,q3_,q4_,q5_,q6_,q7_,q8_,q9_,q10_,q11_,q12_⟩:=cz13 BY.out
     have cx11:=Kd.C_string (P:=Try.prog) (c:=c11) Try.underlying28 Try.underlying5 Try.underlying9 (Kd.jj0 gc11 HBr.out)
     have cy11:=Kd.C_string (P:=Try.prog) (c:=d11) Try.underlying28 Try.underlying5 Try.underlying9 (Kd.jj0 gd11 HBr.out)
     have cx12:=Kd.C_string (P:=Try.prog) (c:=c12) Try.underlying28 Try.underlying5 Try.underlying9 (Kd.jj0 gc12 HBr.out)
     have cy12:=Kd.C_string (P:=Try.prog) (c:=d12) Try.underlying28 Try.underlying5 Try.underlying9 (Kd.jj0 gd12 HBr.out)
     clear ex0 ey0 ex1 ey1 ex2 ey2 ex3 ey3 ex4 ey4 ex5 ey5 ex6 ey6 ex7 ey7 ex8 ey8 ex9 ey9 ex10 ey10 ex11 ey11 ex12 ey12
     have hwp1:=hwp.out
     go_wp2
     go_roundg k1
     case measure=>exact Nat.lt_succ_self k1
     case rel=>exact ⟨i+1,(by first|rfl|(rw [hwp1])|(simp [hwp1];done)),⟨(Nat.add_right_comm i 1 k1).trans HI.out⟩,⟨jj1 HB.out HB.out.size HBr.out⟩⟩
  · have d0:=dec_ge hlt
    go_wp2
    go_ret
    exact ⟨rfl,HB.out⟩
end Go.Proofs.Ytheoafenehckbaa.R1
