/- Messages that stand alike, by the reference. -/
import Derived.Test.YtheoafenehckbaaQT2
import Derived.Test.YtheoafenehckbaaQSh
import Derived.LoopN
import Derived.RegionTactic
namespace Go.Proofs.Ytheoafenehckbaa.R1
open Go.RowKit GUndescBack YtheoafenehckbaaW.PrintWords YtheoafenehckbaaW.PrintLast YtheoafenehckbaaW.PrintMore Vb Wr Wp Rk Sp
attribute [local go_sem] beq_self_eq_true bne_self_eq_false
set_option linter.unusedVariables false
set_option linter.unusedSimpArgs false
def sm_t.T6:Bool × List (List Nat × List Nat):=(true,[([],[]),([],[]),([0,1],[0,1]),([2],[2]),([],[]),([],[]),([4,5],[4,5]),([6],[6]),([],[]),([],[]),([8,3,0,1,2,3,8,9],[3,8]),([9,7,10,0,1,2,3,4,5,6,7,8,9,10],[7,9])])
def sm_t.B6:List Nat:=[0,0,3,7,0,0,48,112,0,0,783,2047]
theorem sm_t.tab6:rtab .any (opsOf Try.f34 6)=sm_t.T6:=by kernel_rfl
theorem sm_t.bits6:waitsOk sm_t.T6.2 sm_t.B6=true:=by kernel_rfl
def SMt (x:S76):Prop:=good76 x→∀ (A0 B0:Option Addr) (ca cb:Nat) (w:World),Kd.C k76 w A0 x.f2.length x.f2→Kd.C k76 w B0 x.f2.length x.f2→
 Calls Try.prog 34 #[.slice A0 x.f2.length ca,.slice B0 x.f2.length cb] w fun e w'=>e = .returned (.bool true)∧Below w.heap.size w w'
set_option maxHeartbeats 8000000 in
set_option maxRecDepth 100000 in
theorem sameMessages1_t (a:List S76) (hga:∀ y∈a,good76 y) (ih:∀ y∈a,SMt y) (hla:a.length≤9223372036854775807) (A0 B0:Option Addr) (ca cb:Nat) (w:World) (CA:Kd.C k76 w A0 a.length a) (CB:Kd.C k76 w B0 a.length a) :
 Calls Try.prog 34 #[.slice A0 a.length ca,.slice B0 a.length cb] w fun e w'=>e = .returned (.bool true)∧Below w.heap.size w w':=by
 have HB0:=mk0 (Below.refl w.heap.size w)
 have HA:=mk0 CA
 have HC:=mk0 CB
 have hn:((a.length:Int) != (a.length:Int))=false:=bne_self_eq_false _
 go_enter Try.func34,Try.ntmps34
 go_wp2
 go_loopg [16] a.length (fun kq v16 w'=>∃ i:Nat,v16 = .int .i64 (i:Int)∧Aside0 (i+kq=a.length)∧Aside0 (Below w.heap.size w w'))
 case atStart=>
  exact ⟨0,rfl,⟨by omega⟩,⟨HB0.out⟩⟩
 case round=>
  obtain ⟨i,rfl,HI,HB⟩:=hrel
  by_cases hlt:i < a.length
  · have d0:=dec_lt hlt
    have p0:(0≤(i:Int))=True:=eq_true (Int.natCast_nonneg i)
    have q0:((i:Int) < (a.length:Int))=True:=eq_true (Int.ofNat_lt.2 hlt)
    obtain ⟨x,hx⟩:∃ x,a.getD i z76=x:=⟨_,rfl⟩
    have gx_:=hga x (by rw [← hx];simp [hlt])
    have hix:=ih x (by rw [← hx];simp [hlt]) gx_
    rw [good76] at gx_
    have hwp:=mk0 (wrap_le i a.length hlt hla)
    have HLA:=mk0 hla
    clear hla
    have hCa:=Kd.jj0 HA.out HB.out
    have hCb:=Kd.jj0 HC.out HB.out
    have hxe:=hx
    obtain ⟨ad,cc,ea,_,hKx,hcc⟩:=Kd.C_get hCa z76 (i:Int) (Int.natCast_nonneg _) (Int.ofNat_lt.2 hlt)
    rw [Int.toNat_natCast] at hKx hcc
    rw [hxe] at hKx
    obtain ⟨A1,c1,A2,c2,A3,c3,A4,c4,A5,c5,A6,c6,A7,c7,A8,c8,A9,c9,A10,c10,ecc,lc1,gc1,lc2,gc2,lc3,gc3,lc4,gc4,lc5,gc5,lc6,gc6,lc7,gc7,lc8,gc8,lc9,gc9,lc10,gc10⟩:=k76_open hKx
    subst ecc
    obtain ⟨ex0,ex1,ex2,ex3,ex4,ex5,ex6,ex7,ex8,ex9,ex10⟩:=ez11 (m:=i*11) hcc
    subst ea
    clear hcc hKx hxe
    have hxe:=hx
    obtain ⟨bd,cc,ea,_,hKx,hcc⟩:=Kd.C_get hCb z76 (i:Int) (Int.natCast_nonneg _) (Int.ofNat_lt.2 hlt)
    rw [Int.toNat_natCast] at hKx hcc
    rw [hxe] at hKx
    obtain ⟨B1,d1,B2,d2,B3,d3,B4,d4,B5,d5,B6,d6,B7,d7,B8,d8,B9,d9,B10,d10,ecc,ld1,gd1,ld2,gd2,ld3,gd3,ld4,gd4,ld5,gd5,ld6,gd6,ld7,gd7,ld8,gd8,ld9,gd9,ld10,gd10⟩:=k76_open hKx
    subst ecc
    obtain ⟨ey0,ey1,ey2,ey3,ey4,ey5,ey6,ey7,ey8,ey9,ey10⟩:=ez11 (m:=i*11) hcc
    subst ea
    clear hcc hKx hxe
    clear CA CB
    clear hx
    have s1:=fun (W:World) (hW:Below wr.heap.size wr W)=>sameFields_t x.f1 gx_.2.1.2 (by have:=gx_.2.1.1;unfold maxLen at this;exact this) A1 B1 c1 d1 W (Kd.jj0 gc1 hW) (Kd.jj0 gd1 hW)
    have s5:=fun (W:World) (hW:Below wr.heap.size wr W)=>sameFields_t x.f5 gx_.2.2.2.2.2.1.2 (by have:=gx_.2.2.2.2.2.1.1;unfold maxLen at this;exact this) A5 B5 c5 d5 W (Kd.jj0 gc5 hW) (Kd.jj0 gd5 hW)
    have s3:=fun (W:World) (hW:Below wr.heap.size wr W)=>sameEnums_t x.f3 gx_.2.2.2.1.2 (by have:=gx_.2.2.2.1.1;unfold maxLen at this;exact this) A3 B3 c3 d3 W (Kd.jj0 gc3 hW) (Kd.jj0 gd3 hW)
    have s2:=fun (W:World) (hW:Below wr.heap.size wr W)=>hix A2 B2 c2 d2 W (Kd.jj0 gc2 hW) (Kd.jj0 gd2 hW)
    clear hix
    have e6_:((x.f6.length:Int) != (x.f6.length:Int))=false:=bne_self_eq_false _
    have e4_:((x.f4.length:Int) != (x.f4.length:Int))=false:=bne_self_eq_false _
    have e7_:((x.f7.length:Int) != (x.f7.length:Int))=false:=bne_self_eq_false _
    have e8_:((x.f8.length:Int) != (x.f8.length:Int))=false:=bne_self_eq_false _
    have HGX2:=mk0 gx_.2.2.2.2.2.2.1
    clear gx_
    have HBr:=mk0 (Below.refl wr.heap.size wr)
    cases gk with
    | zero=>exact absurd HI.out (fun h=>Nat.ne_of_lt hlt h)
    | succ k1=>
     go_wp2
     have n_:=mk0 (jj2 HBr.out)
     clear HBr
     have HBr:=n_
     clear n_
     refine start_ (n:=12) (S:=fun w'=>w'.cell? (ad.add (i*11))=some (.string x.f0)∧w'.cell? ⟨(ad.add (i*11)).block,(ad.add (i*11)).off+1,none⟩=some (.slice A1 x.f1.length c1)∧w'.cell? ⟨(ad.add (i*11)).block,(ad.add (i*11)).off+2,none⟩=some (.slice A2 x.f2.length c2)∧w'.cell? ⟨(ad.add (i*11)).block,(ad.add (i*11)).off+3,none⟩=some (.slice A3 x.f3.length c3)∧w'.cell? ⟨(ad.add (i*11)).block,(ad.add (i*11)).off+4,none⟩=some (.slice A4 x.f4.length c4)∧w'.cell? ⟨(ad.add (i*11)).block,(ad.add (i*11)).off+5,none⟩=some (.slice A5 x.f5.length c5)∧w'.cell? ⟨(ad.add (i*11)).block,(ad.add (i*11)).off+6,none⟩=some (.slice A6 x.f6.length c6)∧w'.cell? ⟨(ad.add (i*11)).block,(ad.add (i*11)).off+7,none⟩=some (.slice A7 x.f7.length c7)∧w'.cell? ⟨(ad.add (i*11)).block,(ad.add (i*11)).off+8,none⟩=some (.slice A8 x.f8.length c8)∧w'.cell? ⟨(ad.add (i*11)).block,(ad.add (i*11)).off+9,none⟩=some (.slice A9 x.f9.length c9)∧w'.cell? ⟨(ad.add (i*11)).block,(ad.add (i*11)).off+10,none⟩=some (.slice A10 x.f10.length c10)∧w'.cell? (bd.add (i*11))=some (.string x.f0)∧w'.cell? ⟨(bd.add (i*11)).block,(bd.add (i*11)).off+1,none⟩=some (.slice B1 x.f1.length d1)∧w'.cell? ⟨(bd.add (i*11)).block,(bd.add (i*11)).off+2,none⟩=some (.slice B2 x.f2.length d2)∧w'.cell? ⟨(bd.add (i*11)).block,(bd.add (i*11)).off+3,none⟩=some (.slice B3 x.f3.length d3)∧w'.cell? ⟨(bd.add (i*11)).block,(bd.add (i*11)).off+4,none⟩=some (.slice B4 x.f4.length d4)∧w'.cell? ⟨(bd.add (i*11)).block,(bd.add (i*11)).off+5,none⟩=some (.slice B5 x.f5.length d5)∧w'.cell? ⟨(bd.add (i*11)).block,(bd.add (i*11)).off+6,none⟩=some (.slice B6 x.f6.length d6)∧w'.cell? ⟨(bd.add (i*11)).block,(bd.add (i*11)).off+7,none⟩=some (.slice B7 x.f7.length d7)∧w'.cell? ⟨(bd.add (i*11)).block,(bd.add (i*11)).off+8,none⟩=some (.slice B8 x.f8.length d8)∧w'.cell? ⟨(bd.add (i*11)).block,(bd.add (i*11)).off+9,none⟩=some (.slice B9 x.f9.length d9)∧w'.cell? ⟨(bd.add (i*11)).block,(bd.add (i*11)).off+10,none⟩=some (.slice B10 x.f10.length d10)) (ds:=[]) (bzs 12 0) (by kernel_rfl) rfl rfl ⟨pzB HBr ex0,pzB HBr ex1,pzB HBr ex2,pzB HBr ex3,pzB HBr ex4,pzB HBr ex5,pzB HBr ex6,pzB HBr ex7,pzB HBr ex8,pzB HBr ex9,pzB HBr ex10,pzB HBr ey0,pzB HBr ey1,pzB HBr ey2,pzB HBr ey3,pzB HBr ey4,pzB HBr ey5,pzB HBr ey6,pzB HBr ey7,pzB HBr ey8,pzB HBr ey9,pzB HBr ey10⟩ (fun hHeld=>?_)
     refine with_tabW sm_t.tab6 sm_t.bits6 (fun HT_ HW_=>?_)
     generalize wr.drew=wq at HBr hHeld ⊢
     refine pzS 0 (some 19) (bzs 12 1) HT_ ?_
     refine pzS 1 (some 20) (bzs 12 3) HT_ ?_
     refine pzS 4 (some 23) (bzs 12 19) HT_ ?_
     refine pzS 5 (some 24) (bzs 12 51) HT_ ?_
     refine tzS 2 (some 21) (bzs 12 55) HT_ HW_ hHeld ?_
     refine tzS 3 (some 22) (bzs 12 63) HT_ HW_ hHeld ?_
     refine tzS 6 (some 25) (bzs 12 127) HT_ HW_ hHeld ?_
     refine tzS 7 (some 26) (bzs 12 255) HT_ HW_ hHeld ?_
     refine join_ (σ:=Nat × Nat) 2 (bzs 12 1023) (fun s_=>[(6,.pointer (some ⟨s_.1,0,none⟩)),(7,.pointer (some ⟨s_.2,0,none⟩))]) (fun s_ w'=>w'.heap[s_.1]?=some (.cells #[.string (⟨#[]⟩:ByteArray),.slice none 0 0,.slice none 0 0,.slice none 0 0,.slice none 0 0,.slice none 0 0,.slice none 0 0,.slice none 0 0,.slice none 0 0,.slice none 0 0,.slice none 0 0] 76 (0,0))∧w'.heap[s_.2]?=some (.cells #[.string (⟨#[]⟩:ByteArray),.slice none 0 0,.slice none 0 0,.slice none 0 0,.slice none 0 0,.slice none 0 0,.slice none 0 0,.slice none 0 0,.slice none 0 0,.slice none 0 0,.slice none 0 0] 76 (0,0))∧s_.1≠s_.2∧wr.heap.size≤s_.1∧wr.heap.size≤s_.2∧Below wr.heap.size wr w') ?_ ?_
     rotate_left
     · intro hCont
       refine two_ (i:=8) (j:=9) (Ni:=some 6) (Nj:=some 7) (bzs 12 511) (bzs 12 767) rfl rfl rfl rfl (two_of HT_.out (by kernel_rfl)) (by decide) (by decide) (fun K hK=>?_) (fun K hK=>?_)
       · skip
         refine box_step ?hg (N:=6) ?hd (cs:=#[.string (⟨#[]⟩:ByteArray),.slice none 0 0,.slice none 0 0,.slice none 0 0,.slice none 0 0,.slice none 0 0,.slice none 0 0,.slice none 0 0,.slice none 0 0,.slice none 0 0,.slice none 0 0]) (t:=76) ?hr ?_;(case hd=>rfl);(case hg=>rfl);(case hr=>first|(go_simp;done)|(go_simp;rfl))
         intro gx hg wq hbox hb
         have HG1:=mk0 (show wr.heap.size≤gx from hg ▸ HBr.out.size)
         have n_:=mk0 (jj1 HBr.out HBr.out.size hb)
         clear HBr
         have HBr:=n_
         clear n_
         have B1:=mk0 hbox
         clear hg hbox hb
         refine hK.out _ _ ⟨pzB HBr ex0,pzB HBr ex1,pzB HBr ex2,pzB HBr ex3,pzB HBr ex4,pzB HBr ex5,pzB HBr ex6,pzB HBr ex7,pzB HBr ex8,pzB HBr ex9,pzB HBr ex10,pzB HBr ey0,pzB HBr ey1,pzB HBr ey2,pzB HBr ey3,pzB HBr ey4,pzB HBr ey5,pzB HBr ey6,pzB HBr ey7,pzB HBr ey8,pzB HBr ey9,pzB HBr ey10⟩ (fun hHeld=>?_)
         clear hK K
         refine nzS (some 6) ?_
         refine one_ (i:=9) (N:=some 7) (bzs 12 1023) rfl rfl (jk2 HT_.out (by kernel_rfl)) (by decide) (fun K hK=>?_)
         refine box_step ?hg (N:=7) ?hd (cs:=#[.string (⟨#[]⟩:ByteArray),.slice none 0 0,.slice none 0 0,.slice none 0 0,.slice none 0 0,.slice none 0 0,.slice none 0 0,.slice none 0 0,.slice none 0 0,.slice none 0 0,.slice none 0 0]) (t:=76) ?hr ?_;(case hd=>rfl);(case hg=>rfl);(case hr=>first|(go_simp;done)|(go_simp;rfl))
         intro gy hg wq hbox hb
         have HG2:=mk0 (show wr.heap.size≤gy from hg ▸ HBr.out.size)
         have HNE:=mk0 (show gx≠gy from hg ▸ Nat.ne_of_lt (blk_lt B1.out))
         have n_:=mk0 (jj1 HBr.out HBr.out.size hb)
         clear HBr
         have HBr:=n_
         clear n_
         have n_:=mk0 (jj3 B1.out hb)
         clear B1
         have B1:=n_
         have B2:=mk0 hbox
         clear hg hbox hb n_
         refine hK.out _ _ ⟨pzB HBr ex0,pzB HBr ex1,pzB HBr ex2,pzB HBr ex3,pzB HBr ex4,pzB HBr ex5,pzB HBr ex6,pzB HBr ex7,pzB HBr ex8,pzB HBr ex9,pzB HBr ex10,pzB HBr ey0,pzB HBr ey1,pzB HBr ey2,pzB HBr ey3,pzB HBr ey4,pzB HBr ey5,pzB HBr ey6,pzB HBr ey7,pzB HBr ey8,pzB HBr ey9,pzB HBr ey10⟩ (fun hHeld=>?_)
         clear hK K
         refine nzS (some 7) ?_
         exact norm_ (by simp only [putAll,Act.put,List.setIfInBounds_toArray,List.set_cons_zero,List.set_cons_succ]) (hCont (gx,gy) _ ⟨B1.out,B2.out,HNE.out,HG1.out,HG2.out,HBr.out⟩)
       · skip
         refine box_step ?hg (N:=7) ?hd (cs:=#[.string (⟨#[]⟩:ByteArray),.slice none 0 0,.slice none 0 0,.slice none 0 0,.slice none 0 0,.slice none 0 0,.slice none 0 0,.slice none 0 0,.slice none 0 0,.slice none 0 0,.slice none 0 0]) (t:=76) ?hr ?_;(case hd=>rfl);(case hg=>rfl);(case hr=>first|(go_simp;done)|(go_simp;rfl))
         intro gy hg wq hbox hb
         have HG1:=mk0 (show wr.heap.size≤gy from hg ▸ HBr.out.size)
         have n_:=mk0 (jj1 HBr.out HBr.out.size hb)
         clear HBr
         have HBr:=n_
         clear n_
         have B1:=mk0 hbox
         clear hg hbox hb
         refine hK.out _ _ ⟨pzB HBr ex0,pzB HBr ex1,pzB HBr ex2,pzB HBr ex3,pzB HBr ex4,pzB HBr ex5,pzB HBr ex6,pzB HBr ex7,pzB HBr ex8,pzB HBr ex9,pzB HBr ex10,pzB HBr ey0,pzB HBr ey1,pzB HBr ey2,pzB HBr ey3,pzB HBr ey4,pzB HBr ey5,pzB HBr ey6,pzB HBr ey7,pzB HBr ey8,pzB HBr ey9,pzB HBr ey10⟩ (fun hHeld=>?_)
         clear hK K
         refine nzS (some 7) ?_
         refine one_ (i:=8) (N:=some 6) (bzs 12 1023) rfl rfl (jk2 HT_.out (by kernel_rfl)) (by decide) (fun K hK=>?_)
         refine box_step ?hg (N:=6) ?hd (cs:=#[.string (⟨#[]⟩:ByteArray),.slice none 0 0,.slice none 0 0,.slice none 0 0,.slice none 0 0,.slice none 0 0,.slice none 0 0,.slice none 0 0,.slice none 0 0,.slice none 0 0,.slice none 0 0]) (t:=76) ?hr ?_;(case hd=>rfl);(case hg=>rfl);(case hr=>first|(go_simp;done)|(go_simp;rfl))
         intro gx hg wq hbox hb
         have HG2:=mk0 (show wr.heap.size≤gx from hg ▸ HBr.out.size)
         have HNE:=mk0 (show gy≠gx from hg ▸ Nat.ne_of_lt (blk_lt B1.out))
         have n_:=mk0 (jj1 HBr.out HBr.out.size hb)
         clear HBr
         have HBr:=n_
         clear n_
         have n_:=mk0 (jj3 B1.out hb)
         clear B1
         have B1:=n_
         have B2:=mk0 hbox
         clear hg hbox hb n_
         refine hK.out _ _ ⟨pzB HBr ex0,pzB HBr ex1,pzB HBr ex2,pzB HBr ex3,pzB HBr ex4,pzB HBr ex5,pzB HBr ex6,pzB HBr ex7,pzB HBr ex8,pzB HBr ex9,pzB HBr ex10,pzB HBr ey0,pzB HBr ey1,pzB HBr ey2,pzB HBr ey3,pzB HBr ey4,pzB HBr ey5,pzB HBr ey6,pzB HBr ey7,pzB HBr ey8,pzB HBr ey9,pzB HBr ey10⟩ (fun hHeld=>?_)
         clear hK K
         refine nzS (some 6) ?_
         exact norm_ (by simp only [putAll,Act.put,List.setIfInBounds_toArray,List.set_cons_zero,List.set_cons_succ]) (hCont (gx,gy) _ ⟨B2.out,B1.out,(HNE.out).symm,HG2.out,HG1.out,HBr.out⟩)
     clear HBr hHeld
     rintro ⟨gx,gy⟩ wq ⟨hBX_,hBY_,hne_,hGX_,hGY_,hB_⟩
     have BX:=mk0 hBX_
     have BY:=mk0 hBY_
     have HNE:=mk0 hne_
     have HGX:=mk0 hGX_
     have HGY:=mk0 hGY_
     have HBr:=mk0 hB_
     clear hBX_ hBY_ hne_ hGX_ hGY_ hB_
     refine norm_ (a':=?_) ?_ ?_
     rotate_left
     · simp only [putAll,Act.put,List.setIfInBounds_toArray,List.set_cons_zero,List.set_cons_succ]
       rfl
     refine one_ (i:=10) (N:=none) (bzs 12 2047) rfl rfl (jk2 HT_.out (by kernel_rfl)) (by decide) (fun K hK=>?_)
     refine skip_ (w1:=wq.setRow gx #[.string x.f0,.slice A1 x.f1.length c1,.slice A2 x.f2.length c2,.slice A3 x.f3.length c3,.slice A4 x.f4.length c4,.slice A5 x.f5.length c5,.slice A6 x.f6.length c6,.slice A7 x.f7.length c7,.slice A8 x.f8.length c8,.slice A9 x.f9.length c9,.slice A10 x.f10.length c10]) (by rfl) rfl (store_skip rfl gx 76 _ _ rfl rfl BX.out (by kernel_rfl) rfl rfl) ?_
     have n0_:=mk0 (setRow_heap wq gx _ #[.string x.f0,.slice A1 x.f1.length c1,.slice A2 x.f2.length c2,.slice A3 x.f3.length c3,.slice A4 x.f4.length c4,.slice A5 x.f5.length c5,.slice A6 x.f6.length c6,.slice A7 x.f7.length c7,.slice A8 x.f8.length c8,.slice A9 x.f9.length c9,.slice A10 x.f10.length c10] 76 (0,0) BX.out)
     have n1_:=mk0 ((setRow_other wq gx gy #[.string x.f0,.slice A1 x.f1.length c1,.slice A2 x.f2.length c2,.slice A3 x.f3.length c3,.slice A4 x.f4.length c4,.slice A5 x.f5.length c5,.slice A6 x.f6.length c6,.slice A7 x.f7.length c7,.slice A8 x.f8.length c8,.slice A9 x.f9.length c9,.slice A10 x.f10.length c10] HNE.out.symm).trans BY.out)
     have n2_:=mk0 (below_setRow HBr.out HGX.out #[.string x.f0,.slice A1 x.f1.length c1,.slice A2 x.f2.length c2,.slice A3 x.f3.length c3,.slice A4 x.f4.length c4,.slice A5 x.f5.length c5,.slice A6 x.f6.length c6,.slice A7 x.f7.length c7,.slice A8 x.f8.length c8,.slice A9 x.f9.length c9,.slice A10 x.f10.length c10])
     clear BX BY HBr
     generalize wq.setRow gx #[.string x.f0,.slice A1 x.f1.length c1,.slice A2 x.f2.length c2,.slice A3 x.f3.length c3,.slice A4 x.f4.length c4,.slice A5 x.f5.length c5,.slice A6 x.f6.length c6,.slice A7 x.f7.length c7,.slice A8 x.f8.length c8,.slice A9 x.f9.length c9,.slice A10 x.f10.length c10]=wq at n0_ n1_ n2_ ⊢
     have BX:=n0_
     have BY:=n1_
     have HBr:=n2_
     clear n0_ n1_ n2_
     refine hK.out _ _ ⟨pzB HBr ex0,pzB HBr ex1,pzB HBr ex2,pzB HBr ex3,pzB HBr ex4,pzB HBr ex5,pzB HBr ex6,pzB HBr ex7,pzB HBr ex8,pzB HBr ex9,pzB HBr ex10,pzB HBr ey0,pzB HBr ey1,pzB HBr ey2,pzB HBr ey3,pzB HBr ey4,pzB HBr ey5,pzB HBr ey6,pzB HBr ey7,pzB HBr ey8,pzB HBr ey9,pzB HBr ey10⟩ (fun hHeld=>?_)
     clear hK K
     refine one_ (i:=11) (N:=none) (bzs 12 4095) rfl rfl (jk2 HT_.out (by kernel_rfl)) (by decide) (fun K hK=>?_)
     refine skip_ (w1:=wq.setRow gy #[.string x.f0,.slice B1 x.f1.length d1,.slice B2 x.f2.length d2,.slice B3 x.f3.length d3,.slice B4 x.f4.length d4,.slice B5 x.f5.length d5,.slice B6 x.f6.length d6,.slice B7 x.f7.length d7,.slice B8 x.f8.length d8,.slice B9 x.f9.length d9,.slice B10 x.f10.length d10]) (by rfl) rfl (store_skip rfl gy 76 _ _ rfl rfl BY.out (by kernel_rfl) rfl rfl) ?_
     have n0_:=mk0 (setRow_heap wq gy _ #[.string x.f0,.slice B1 x.f1.length d1,.slice B2 x.f2.length d2,.slice B3 x.f3.length d3,.slice B4 x.f4.length d4,.slice B5 x.f5.length d5,.slice B6 x.f6.length d6,.slice B7 x.f7.length d7,.slice B8 x.f8.length d8,.slice B9 x.f9.length d9,.slice B10 x.f10.length d10] 76 (0,0) BY.out)
     have n1_:=mk0 ((setRow_other wq gy gx #[.string x.f0,.slice B1 x.f1.length d1,.slice B2 x.f2.length d2,.slice B3 x.f3.length d3,.slice B4 x.f4.length d4,.slice B5 x.f5.length d5,.slice B6 x.f6.length d6,.slice B7 x.f7.length d7,.slice B8 x.f8.length d8,.slice B9 x.f9.length d9,.slice B10 x.f10.length d10] HNE.out).trans BX.out)
     have n2_:=mk0 (below_setRow HBr.out HGY.out #[.string x.f0,.slice B1 x.f1.length d1,.slice B2 x.f2.length d2,.slice B3 x.f3.length d3,.slice B4 x.f4.length d4,.slice B5 x.f5.length d5,.slice B6 x.f6.length d6,.slice B7 x.f7.length d7,.slice B8 x.f8.length d8,.slice B9 x.f9.length d9,.slice B10 x.f10.length d10])
     clear BY BX HBr
     generalize wq.setRow gy #[.string x.f0,.slice B1 x.f1.length d1,.slice B2 x.f2.length d2,.slice B3 x.f3.length d3,.slice B4 x.f4.length d4,.slice B5 x.f5.length d5,.slice B6 x.f6.length d6,.slice B7 x.f7.length d7,.slice B8 x.f8.length d8,.slice B9 x.f9.length d9,.slice B10 x.f10.length d10]=wq at n0_ n1_ n2_ ⊢
     have BY:=n0_
     have BX:=n1_
     have HBr:=n2_
     clear n0_ n1_ n2_
     refine hK.out _ _ ⟨pzB HBr ex0,pzB HBr ex1,pzB HBr ex2,pzB HBr ex3,pzB HBr ex4,pzB HBr ex5,pzB HBr ex6,pzB HBr ex7,pzB HBr ex8,pzB HBr ex9,pzB HBr ex10,pzB HBr ey0,pzB HBr ey1,pzB HBr ey2,pzB HBr ey3,pzB HBr ey4,pzB HBr ey5,pzB HBr ey6,pzB HBr ey7,pzB HBr ey8,pzB HBr ey9,pzB HBr ey10⟩ (fun hHeld=>?_)
     clear hK K
     refine done_ (done_of HT_.out (by kernel_rfl)) ?_
     obtain ⟨p0_,p1_,p2_,p3_,p4_,p5_,p6_,p7_,p8_,p9_,p10_⟩:=cz11 BX.out
     obtain ⟨q0_,q1_,q2_,q3_,q4_,q5_,q6_,q7_,q8_,q9_,q10_⟩:=cz11 BY.out
     have cx9:=Kd.C_string (P:=Try.prog) (c:=c9) Try.underlying28 Try.underlying5 Try.underlying9 (Kd.jj0 gc9 HBr.out)
     have cy9:=Kd.C_string (P:=Try.prog) (c:=d9) Try.underlying28 Try.underlying5 Try.underlying9 (Kd.jj0 gd9 HBr.out)
     have cx10:=Kd.C_string (P:=Try.prog) (c:=c10) Try.underlying28 Try.underlying5 Try.underlying9 (Kd.jj0 gc10 HBr.out)
     have cy10:=Kd.C_string (P:=Try.prog) (c:=d10) Try.underlying28 Try.underlying5 Try.underlying9 (Kd.jj0 gd10 HBr.out)
     clear ex0 ey0 ex1 ey1 ex2 ey2 ex3 ey3 ex4 ey4 ex5 ey5 ex6 ey6 ex7 ey7 ex8 ey8 ex9 ey9 ex10 ey10
     go_wp2_with (first|(go_at_call 36;(with_reducible refine (s1 _ HBr.out).mono ?_);rintro e wq ⟨rfl,hb⟩;replace HBr:=mk0 (jj1 HBr.out HBr.out.size hb);replace BX:=mk0 (jj3 BX.out hb);replace BY:=mk0 (jj3 BY.out hb);(try clear p0_ q0_);(try clear p1_ q1_);(try clear p2_ q2_);(try clear p3_ q3_);(try clear p4_ q4_);(try clear p5_ q5_);(try clear p6_ q6_);(try clear p7_ q7_);(try clear p8_ q8_);(try clear p9_ q9_);(try clear p10_ q10_);clear hb;obtain ⟨p0_,p1_,p2_,p3_,p4_,p5_,p6_,p7_,p8_,p9_,p10_⟩:=cz11 BX.out;obtain ⟨q0_,q1_,q2_,q3_,q4_,q5_,q6_,q7_,q8_,q9_,q10_⟩:=cz11 BY.out)|(go_at_call 36;(with_reducible refine (s5 _ HBr.out).mono ?_);rintro e wq ⟨rfl,hb⟩;replace HBr:=mk0 (jj1 HBr.out HBr.out.size hb);replace BX:=mk0 (jj3 BX.out hb);replace BY:=mk0 (jj3 BY.out hb);(try clear p0_ q0_);(try clear p1_ q1_);(try clear p2_ q2_);(try clear p3_ q3_);(try clear p4_ q4_);(try clear p5_ q5_);(try clear p6_ q6_);(try clear p7_ q7_);(try clear p8_ q8_);(try clear p9_ q9_);(try clear p10_ q10_);clear hb;obtain ⟨p0_,p1_,p2_,p3_,p4_,p5_,p6_,p7_,p8_,p9_,p10_⟩:=cz11 BX.out;obtain ⟨q0_,q1_,q2_,q3_,q4_,q5_,q6_,q7_,q8_,q9_,q10_⟩:=cz11 BY.out)|(go_at_call 35;(with_reducible refine (s3 _ HBr.out).mono ?_);rintro e wq ⟨rfl,hb⟩;replace HBr:=mk0 (jj1 HBr.out HBr.out.size hb);replace BX:=mk0 (jj3 BX.out hb);replace BY:=mk0 (jj3 BY.out hb);(try clear p0_ q0_);(try clear p1_ q1_);(try clear p2_ q2_);(try clear p3_ q3_);(try clear p4_ q4_);(try clear p5_ q5_);(try clear p6_ q6_);(try clear p7_ q7_);(try clear p8_ q8_);(try clear p9_ q9_);(try clear p10_ q10_);clear hb;obtain ⟨p0_,p1_,p2_,p3_,p4_,p5_,p6_,p7_,p8_,p9_,p10_⟩:=cz11 BX.out;obtain ⟨q0_,q1_,q2_,q3_,q4_,q5_,q6_,q7_,q8_,q9_,q10_⟩:=cz11 BY.out)|(go_at_call 34;(with_reducible refine (s2 _ HBr.out).mono ?_);rintro e wq ⟨rfl,hb⟩;replace HBr:=mk0 (jj1 HBr.out HBr.out.size hb);replace BX:=mk0 (jj3 BX.out hb);replace BY:=mk0 (jj3 BY.out hb);(try clear p0_ q0_);(try clear p1_ q1_);(try clear p2_ q2_);(try clear p3_ q3_);(try clear p4_ q4_);(try clear p5_ q5_);(try clear p6_ q6_);(try clear p7_ q7_);(try clear p8_ q8_);(try clear p9_ q9_);(try clear p10_ q10_);clear hb;obtain ⟨p0_,p1_,p2_,p3_,p4_,p5_,p6_,p7_,p8_,p9_,p10_⟩:=cz11 BX.out;obtain ⟨q0_,q1_,q2_,q3_,q4_,q5_,q6_,q7_,q8_,q9_,q10_⟩:=cz11 BY.out))
     obtain ⟨wo,hwo_⟩:∃ q:World,q=wr:=⟨_,rfl⟩
     subst hwo_
     have HI1:=HI
     have hwp1:=hwp
     have HB1:=HB
     have HL2:=mk0 (show x.f6.length≤9223372036854775807 from HGX2.out.1)
     clear HI hwp HB s1 s5 s3 s2
     go_loopg [121] x.f6.length (fun kq v121 w'=>∃ k:Nat,v121 = .int .i64 (k:Int)∧Aside0 (k+kq=x.f6.length)∧Aside0 (Below wo.heap.size wo w')∧Aside0 (w'.heap[gx]?=some (.cells #[.string x.f0,.slice A1 x.f1.length c1,.slice A2 x.f2.length c2,.slice A3 x.f3.length c3,.slice A4 x.f4.length c4,.slice A5 x.f5.length c5,.slice A6 x.f6.length c6,.slice A7 x.f7.length c7,.slice A8 x.f8.length c8,.slice A9 x.f9.length c9,.slice A10 x.f10.length c10] 76 (0,0)))∧Aside0 (w'.heap[gy]?=some (.cells #[.string x.f0,.slice B1 x.f1.length d1,.slice B2 x.f2.length d2,.slice B3 x.f3.length d3,.slice B4 x.f4.length d4,.slice B5 x.f5.length d5,.slice B6 x.f6.length d6,.slice B7 x.f7.length d7,.slice B8 x.f8.length d8,.slice B9 x.f9.length d9,.slice B10 x.f10.length d10] 76 (0,0))))
     case atStart=>exact ⟨0,rfl,⟨by omega⟩,⟨HBr.out⟩,⟨BX.out⟩,⟨BY.out⟩⟩
     case round=>
      clear HBr BX BY p0_ q0_ p1_ q1_ p2_ q2_ p3_ q3_ p4_ q4_ p5_ q5_ p6_ q6_ p7_ q7_ p8_ q8_ p9_ q9_ p10_ q10_
      obtain ⟨k,rfl,HI2,HBi,BX,BY⟩:=hrel
      by_cases hlt2:k < x.f6.length
      · have hwp:=mk0 (wrap_le k x.f6.length hlt2 HL2.out)
        have dd1_:=dec_lt hlt2
        have p1:(0≤(k:Int))=True:=eq_true (Int.natCast_nonneg k)
        have q2:((k:Int) < (x.f6.length:Int))=True:=eq_true (Int.ofNat_lt.2 hlt2)
        obtain ⟨u,hu⟩:∃ u,x.f6.getD k z91=u:=⟨_,rfl⟩
        have gu_:=HGX2.out.2 u (by rw [← hu];simp [hlt2])
        have hCu:=Kd.jj0 gc6 HBi.out
        have hCv:=Kd.jj0 gd6 HBi.out
        have p6_:_=some ((.slice A6 x.f6.length c6):Value):=bzC BX 6
        have q6_:_=some ((.slice B6 x.f6.length d6):Value):=bzC BY 6
        have hxe:=hu
        obtain ⟨ud,cc,ea,_,hKx,hcc⟩:=Kd.C_get hCu z91 (k:Int) (Int.natCast_nonneg _) (Int.ofNat_lt.2 hlt2)
        rw [Int.toNat_natCast] at hKx hcc
        rw [hxe] at hKx
        obtain ⟨E1,m1,E2,m2,ecc,lm1,gm1,lm2,gm2⟩:=k91_open hKx
        subst ecc
        obtain ⟨eu0,eu1,eu2⟩:=ez3 (m:=k*3) hcc
        subst ea
        clear hcc hKx hxe
        have hxe:=hu
        obtain ⟨vd,cc,ea,_,hKx,hcc⟩:=Kd.C_get hCv z91 (k:Int) (Int.natCast_nonneg _) (Int.ofNat_lt.2 hlt2)
        rw [Int.toNat_natCast] at hKx hcc
        rw [hxe] at hKx
        obtain ⟨G1,o1,G2,o2,ecc,lo1,go1,lo2,go2⟩:=k91_open hKx
        subst ecc
        obtain ⟨ev0,ev1,ev2⟩:=ez3 (m:=k*3) hcc
        subst ea
        clear hcc hKx hxe
        clear hu gu_
        have cu1:=fun (nd_:Nat)=>Kd.C_string (P:=Try.prog) (c:=m1) Try.underlying28 Try.underlying5 Try.underlying9 (Kd.C_drewN gm1 nd_)
        have cu2:=fun (nd_:Nat)=>Kd.C_string (P:=Try.prog) (c:=m2) Try.underlying28 Try.underlying5 Try.underlying9 (Kd.C_drewN gm2 nd_)
        have cv1:=fun (nd_:Nat)=>Kd.C_string (P:=Try.prog) (c:=o1) Try.underlying28 Try.underlying5 Try.underlying9 (Kd.C_drewN go1 nd_)
        have cv2:=fun (nd_:Nat)=>Kd.C_string (P:=Try.prog) (c:=o2) Try.underlying28 Try.underlying5 Try.underlying9 (Kd.C_drewN go2 nd_)
        cases gk with
        | zero=>exact absurd HI2.out (fun h=>Nat.ne_of_lt hlt2 h)
        | succ k2=>
         have hwp2:=hwp.out
         go_wp2
         go_quiet (fail)
         go_wp2
         go_roundg k2
         case measure=>exact Nat.lt_succ_self k2
         case rel=>exact ⟨k+1,(by first|rfl|(rw [hwp2])|(simp [hwp2];done)),⟨(Nat.add_right_comm k 1 k2).trans HI2.out⟩,⟨by apply jj4;exact HBi.out⟩,⟨jj9 BX.out _⟩,⟨jj9 BY.out _⟩⟩
      · have dd1_:=dec_ge hlt2
        have hwp2:=hwp1.out
        go_wp2
        go_roundg k1
        case measure=>exact Nat.lt_succ_self k1
        case rel=>exact ⟨i+1,(by first|rfl|(rw [hwp2])|(simp [hwp2];done)),⟨(Nat.add_right_comm i 1 k1).trans HI1.out⟩,⟨jj1 HB1.out HB1.out.size HBi.out⟩⟩
  · have d0:=dec_ge hlt
    go_wp2
    go_ret
    exact ⟨rfl,HB.out⟩
theorem smt_all:∀ x:S76,SMt x:=by
 refine S76.ind fun x ih g A0 B0 ca cb w CA CB=>?_
 rw [good76] at g
 exact sameMessages1_t x.f2 g.2.2.1.2 ih (by have:=g.2.2.1.1;unfold maxLen at this;exact this) A0 B0 ca cb w CA CB
theorem sameMessages_t (a:List S76) (hga:∀ y∈a,good76 y) (hla:a.length≤9223372036854775807) (A0 B0:Option Addr) (ca cb:Nat) (w:World) (CA:Kd.C k76 w A0 a.length a) (CB:Kd.C k76 w B0 a.length a) :
 Calls Try.prog 34 #[.slice A0 a.length ca,.slice B0 a.length cb] w fun e w'=>e = .returned (.bool true)∧Below w.heap.size w w':=sameMessages1_t a hga (fun y _=>smt_all y) hla A0 B0 ca cb w CA CB
end Go.Proofs.Ytheoafenehckbaa.R1
